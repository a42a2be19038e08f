import PyProof.Rows.All
import Wide.All
import OpenK.AllK
import Wide.FinOn
import KE.KStateDown
import Lean
import HandS.Base
import HandS.Call
import HandS.Ends
import HandS.More
import HandS.Words
import HandS.Defaults
import HandS.Head0
import HandS.Head1
import HandS.Head2
import HandS.HeadHook1
import HandS.HeadHook2
import HandS.HeadHook3
import HandS.ForMost
import HandS.TupAny
import HandS.Deep
import HandS.Walk
import KE.DataEq
import HandS.Style
import HandS.Flow
import HandS.TupMul
import HandS.IsInst
import KE.GoesEnum
import KE.GoesMore
import KE.SortData
import HandS.SetKeys
import HandS.WrittenGet
import HandS.TryOnly
import HandS.New
import KE.KDictWalk
import PyProof.DictMoreH
import KE.KDictOf
import KE.DataMinMax
import HandS.HeadEnd
import PySem.Challenge.RW_nothingbeyond_k85_whole_trimmed
set_option Elab.async false
set_option linter.all false
set_option maxRecDepth 100000
set_option maxHeartbeats 0
namespace K85
open PySem
def topS (i : Nat) : Stmt := PySem.Challenge.pw_nothingbeyond_k85_whole_trimmed.main.body.getD i (.Pass ⟨0, 0, 0, 0⟩)
end K85
namespace K85
open PySem PySem.Spec PyProof.Rows L2
/-! ### the head: the text by places, facts by names, the run -/
abbrev s_named : Stmt := topS 5
def d_named : He.DefD := ⟨("named", none), "named", "named", defArgs s_named, defBody s_named, defScope s_named, [], []⟩
abbrev s_table_of : Stmt := topS 6
def d_table_of : He.DefD := ⟨("table_of", none), "table_of", "table_of", defArgs s_table_of, defBody s_table_of, defScope s_table_of, [], []⟩
abbrev s_role_of : Stmt := topS 7
def d_role_of : He.DefD := ⟨("role_of", none), "role_of", "role_of", defArgs s_role_of, defBody s_role_of, defScope s_role_of, [], []⟩
abbrev s_ask_of : Stmt := topS 8
def d_ask_of : He.DefD := ⟨("ask_of", none), "ask_of", "ask_of", defArgs s_ask_of, defBody s_ask_of, defScope s_ask_of, [], []⟩
abbrev s_window_of : Stmt := topS 9
def d_window_of : He.DefD := ⟨("window_of", none), "window_of", "window_of", defArgs s_window_of, defBody s_window_of, defScope s_window_of, [], []⟩
abbrev s_table_place : Stmt := topS 10
def d_table_place : He.DefD := ⟨("table_place", none), "table_place", "table_place", defArgs s_table_place, defBody s_table_place, defScope s_table_place, [], []⟩
abbrev s_ask_tables : Stmt := topS 11
def d_ask_tables : He.DefD := ⟨("ask_tables", none), "ask_tables", "ask_tables", defArgs s_ask_tables, defBody s_ask_tables, defScope s_ask_tables, [], []⟩
abbrev s_told_fields : Stmt := topS 12
def d_told_fields : He.DefD := ⟨("told_fields", none), "told_fields", "told_fields", defArgs s_told_fields, defBody s_told_fields, defScope s_told_fields, [], []⟩
abbrev s_literal_parts : Stmt := topS 13
def d_literal_parts : He.DefD := ⟨("literal_parts", none), "literal_parts", "literal_parts", defArgs s_literal_parts, defBody s_literal_parts, defScope s_literal_parts, [], []⟩
abbrev s_plain_literals : Stmt := topS 14
def d_plain_literals : He.DefD := ⟨("plain_literals", none), "plain_literals", "plain_literals", defArgs s_plain_literals, defBody s_plain_literals, defScope s_plain_literals, [], []⟩
abbrev s_beside_literals : Stmt := topS 15
def d_beside_literals : He.DefD := ⟨("beside_literals", none), "beside_literals", "beside_literals", defArgs s_beside_literals, defBody s_beside_literals, defScope s_beside_literals, [], []⟩
abbrev s_Classes___init__ : Stmt := inClass (topS 17) 0
def d_Classes___init__ : He.DefD := ⟨("Classes", some "__init__"), "__init__", "Classes.__init__", defArgs s_Classes___init__, defBody s_Classes___init__, defScope s_Classes___init__, [], []⟩
abbrev s_Classes_top : Stmt := inClass (topS 17) 1
def d_Classes_top : He.DefD := ⟨("Classes", some "top"), "top", "Classes.top", defArgs s_Classes_top, defBody s_Classes_top, defScope s_Classes_top, [], []⟩
abbrev s_Classes_lots : Stmt := inClass (topS 17) 2
def d_Classes_lots : He.DefD := ⟨("Classes", some "lots"), "lots", "Classes.lots", defArgs s_Classes_lots, defBody s_Classes_lots, defScope s_Classes_lots, [], []⟩
abbrev s_Classes_can_hold : Stmt := inClass (topS 17) 4
def d_Classes_can_hold : He.DefD := ⟨("Classes", some "can_hold"), "can_hold", "Classes.can_hold", defArgs s_Classes_can_hold, defBody s_Classes_can_hold, defScope s_Classes_can_hold, [], []⟩
abbrev s_can_hold : Stmt := topS 18
def d_can_hold : He.DefD := ⟨("can_hold", none), "can_hold", "can_hold", defArgs s_can_hold, defBody s_can_hold, defScope s_can_hold, [], []⟩
abbrev s_opposite : Stmt := topS 21
def d_opposite : He.DefD := ⟨("opposite", none), "opposite", "opposite", defArgs s_opposite, defBody s_opposite, defScope s_opposite, [], []⟩
abbrev s_look_fact : Stmt := topS 22
def d_look_fact : He.DefD := ⟨("look_fact", none), "look_fact", "look_fact", defArgs s_look_fact, defBody s_look_fact, defScope s_look_fact, [.str "v"], []⟩
abbrev s_both_lots : Stmt := topS 23
def d_both_lots : He.DefD := ⟨("both_lots", none), "both_lots", "both_lots", defArgs s_both_lots, defBody s_both_lots, defScope s_both_lots, [], []⟩
abbrev s_all_lots : Stmt := topS 24
def d_all_lots : He.DefD := ⟨("all_lots", none), "all_lots", "all_lots", defArgs s_all_lots, defBody s_all_lots, defScope s_all_lots, [], []⟩
abbrev s_seen_lots : Stmt := topS 25
def d_seen_lots : He.DefD := ⟨("seen_lots", none), "seen_lots", "seen_lots", defArgs s_seen_lots, defBody s_seen_lots, defScope s_seen_lots, [], []⟩
abbrev s_unseen_lots : Stmt := topS 26
def d_unseen_lots : He.DefD := ⟨("unseen_lots", none), "unseen_lots", "unseen_lots", defArgs s_unseen_lots, defBody s_unseen_lots, defScope s_unseen_lots, [], []⟩
abbrev s_same_shows : Stmt := topS 27
def d_same_shows : He.DefD := ⟨("same_shows", none), "same_shows", "same_shows", defArgs s_same_shows, defBody s_same_shows, defScope s_same_shows, [], []⟩
abbrev s_alike_lots : Stmt := topS 28
def d_alike_lots : He.DefD := ⟨("alike_lots", none), "alike_lots", "alike_lots", defArgs s_alike_lots, defBody s_alike_lots, defScope s_alike_lots, [], []⟩
abbrev s_some_holds : Stmt := topS 29
def d_some_holds : He.DefD := ⟨("some_holds", none), "some_holds", "some_holds", defArgs s_some_holds, defBody s_some_holds, defScope s_some_holds, [], []⟩
abbrev s_lot_facts : Stmt := topS 31
def d_lot_facts : He.DefD := ⟨("lot_facts", none), "lot_facts", "lot_facts", defArgs s_lot_facts, defBody s_lot_facts, defScope s_lot_facts, [], []⟩
abbrev s_is_idle : Stmt := topS 32
def d_is_idle : He.DefD := ⟨("is_idle", none), "is_idle", "is_idle", defArgs s_is_idle, defBody s_is_idle, defScope s_is_idle, [], []⟩
abbrev s_idle_windows : Stmt := topS 33
def d_idle_windows : He.DefD := ⟨("idle_windows", none), "idle_windows", "idle_windows", defArgs s_idle_windows, defBody s_idle_windows, defScope s_idle_windows, [], []⟩
abbrev s_lies_in : Stmt := topS 34
def d_lies_in : He.DefD := ⟨("lies_in", none), "lies_in", "lies_in", defArgs s_lies_in, defBody s_lies_in, defScope s_lies_in, [], []⟩
abbrev s_spare_in : Stmt := topS 35
def d_spare_in : He.DefD := ⟨("spare_in", none), "spare_in", "spare_in", defArgs s_spare_in, defBody s_spare_in, defScope s_spare_in, [], []⟩
abbrev s_spare_lots : Stmt := topS 36
def d_spare_lots : He.DefD := ⟨("spare_lots", none), "spare_lots", "spare_lots", defArgs s_spare_lots, defBody s_spare_lots, defScope s_spare_lots, [], []⟩
abbrev s_trimmed_windows : Stmt := topS 37
def d_trimmed_windows : He.DefD := ⟨("trimmed_windows", none), "trimmed_windows", "trimmed_windows", defArgs s_trimmed_windows, defBody s_trimmed_windows, defScope s_trimmed_windows, [], []⟩
abbrev s_trimmed : Stmt := topS 38
def d_trimmed : He.DefD := ⟨("trimmed", none), "trimmed", "trimmed", defArgs s_trimmed, defBody s_trimmed, defScope s_trimmed, [], []⟩
abbrev s_sizes : Stmt := topS 39
def d_sizes : He.DefD := ⟨("sizes", none), "sizes", "sizes", defArgs s_sizes, defBody s_sizes, defScope s_sizes, [], []⟩
abbrev s_WayMaker___init__ : Stmt := inClass (topS 42) 0
def d_WayMaker___init__ : He.DefD := ⟨("WayMaker", some "__init__"), "__init__", "WayMaker.__init__", defArgs s_WayMaker___init__, defBody s_WayMaker___init__, defScope s_WayMaker___init__, [], []⟩
abbrev s_WayMaker_term : Stmt := inClass (topS 42) 1
def d_WayMaker_term : He.DefD := ⟨("WayMaker", some "term"), "term", "WayMaker.term", defArgs s_WayMaker_term, defBody s_WayMaker_term, defScope s_WayMaker_term, [], []⟩
abbrev s_WayMaker_fact : Stmt := inClass (topS 42) 2
def d_WayMaker_fact : He.DefD := ⟨("WayMaker", some "fact"), "fact", "WayMaker.fact", defArgs s_WayMaker_fact, defBody s_WayMaker_fact, defScope s_WayMaker_fact, [], []⟩
abbrev s_WayMaker_facts : Stmt := inClass (topS 42) 3
def d_WayMaker_facts : He.DefD := ⟨("WayMaker", some "facts"), "facts", "WayMaker.facts", defArgs s_WayMaker_facts, defBody s_WayMaker_facts, defScope s_WayMaker_facts, [], []⟩
abbrev s_WayMaker_worth : Stmt := inClass (topS 42) 4
def d_WayMaker_worth : He.DefD := ⟨("WayMaker", some "worth"), "worth", "WayMaker.worth", defArgs s_WayMaker_worth, defBody s_WayMaker_worth, defScope s_WayMaker_worth, [], []⟩
abbrev s_WayMaker_naming : Stmt := inClass (topS 42) 5
def d_WayMaker_naming : He.DefD := ⟨("WayMaker", some "naming"), "naming", "WayMaker.naming", defArgs s_WayMaker_naming, defBody s_WayMaker_naming, defScope s_WayMaker_naming, [], []⟩
abbrev s_WayMaker_ways : Stmt := inClass (topS 42) 6
def d_WayMaker_ways : He.DefD := ⟨("WayMaker", some "ways"), "ways", "WayMaker.ways", defArgs s_WayMaker_ways, defBody s_WayMaker_ways, defScope s_WayMaker_ways, [], []⟩
abbrev s_WayMaker_lots : Stmt := inClass (topS 42) 7
def d_WayMaker_lots : He.DefD := ⟨("WayMaker", some "lots"), "lots", "WayMaker.lots", defArgs s_WayMaker_lots, defBody s_WayMaker_lots, defScope s_WayMaker_lots, [], []⟩
abbrev s_WayMaker_put_facts : Stmt := inClass (topS 42) 8
def d_WayMaker_put_facts : He.DefD := ⟨("WayMaker", some "put_facts"), "put_facts", "WayMaker.put_facts", defArgs s_WayMaker_put_facts, defBody s_WayMaker_put_facts, defScope s_WayMaker_put_facts, [], []⟩
abbrev s_own_maker : Stmt := topS 43
def d_own_maker : He.DefD := ⟨("own_maker", none), "own_maker", "own_maker", defArgs s_own_maker, defBody s_own_maker, defScope s_own_maker, [], []⟩
abbrev s_ask_ways : Stmt := topS 44
def d_ask_ways : He.DefD := ⟨("ask_ways", none), "ask_ways", "ask_ways", defArgs s_ask_ways, defBody s_ask_ways, defScope s_ask_ways, [], []⟩
abbrev s_look_value : Stmt := topS 46
def d_look_value : He.DefD := ⟨("look_value", none), "look_value", "look_value", defArgs s_look_value, defBody s_look_value, defScope s_look_value, [], []⟩
abbrev s_lot_holds : Stmt := topS 47
def d_lot_holds : He.DefD := ⟨("lot_holds", none), "lot_holds", "lot_holds", defArgs s_lot_holds, defBody s_lot_holds, defScope s_lot_holds, [], []⟩
abbrev s_show_through : Stmt := topS 48
def d_show_through : He.DefD := ⟨("show_through", none), "show_through", "show_through", defArgs s_show_through, defBody s_show_through, defScope s_show_through, [], []⟩
abbrev s_show_of : Stmt := topS 49
def d_show_of : He.DefD := ⟨("show_of", none), "show_of", "show_of", defArgs s_show_of, defBody s_show_of, defScope s_show_of, [], []⟩
abbrev s_is_seen : Stmt := topS 50
def d_is_seen : He.DefD := ⟨("is_seen", none), "is_seen", "is_seen", defArgs s_is_seen, defBody s_is_seen, defScope s_is_seen, [], []⟩
abbrev s_seen_rows : Stmt := topS 51
def d_seen_rows : He.DefD := ⟨("seen_rows", none), "seen_rows", "seen_rows", defArgs s_seen_rows, defBody s_seen_rows, defScope s_seen_rows, [], []⟩
abbrev s_table_shows : Stmt := topS 52
def d_table_shows : He.DefD := ⟨("table_shows", none), "table_shows", "table_shows", defArgs s_table_shows, defBody s_table_shows, defScope s_table_shows, [], []⟩
abbrev s_sight_of : Stmt := topS 53
def d_sight_of : He.DefD := ⟨("sight_of", none), "sight_of", "sight_of", defArgs s_sight_of, defBody s_sight_of, defScope s_sight_of, [], []⟩
abbrev s_are_alike : Stmt := topS 54
def d_are_alike : He.DefD := ⟨("are_alike", none), "are_alike", "are_alike", defArgs s_are_alike, defBody s_are_alike, defScope s_are_alike, [], []⟩
abbrev s_tells_nothing : Stmt := topS 56
def d_tells_nothing : He.DefD := ⟨("tells_nothing", none), "tells_nothing", "tells_nothing", defArgs s_tells_nothing, defBody s_tells_nothing, defScope s_tells_nothing, [], []⟩
abbrev s__law_barn : Stmt := topS 58
def d__law_barn : He.DefD := ⟨("_law_barn", none), "_law_barn", "_law_barn", defArgs s__law_barn, defBody s__law_barn, defScope s__law_barn, [], []⟩
abbrev s__law_bale : Stmt := topS 59
def d__law_bale : He.DefD := ⟨("_law_bale", none), "_law_bale", "_law_bale", defArgs s__law_bale, defBody s__law_bale, defScope s__law_bale, [], []⟩
abbrev s__law_door : Stmt := topS 60
def d__law_door : He.DefD := ⟨("_law_door", none), "_law_door", "_law_door", defArgs s__law_door, defBody s__law_door, defScope s__law_door, [], []⟩
abbrev s__law_look : Stmt := topS 61
def d__law_look : He.DefD := ⟨("_law_look", none), "_law_look", "_law_look", defArgs s__law_look, defBody s__law_look, defScope s__law_look, [], []⟩
abbrev s__law_lot : Stmt := topS 62
def d__law_lot : He.DefD := ⟨("_law_lot", none), "_law_lot", "_law_lot", defArgs s__law_lot, defBody s__law_lot, defScope s__law_lot, [], []⟩
abbrev s__law_other : Stmt := topS 63
def d__law_other : He.DefD := ⟨("_law_other", none), "_law_other", "_law_other", defArgs s__law_other, defBody s__law_other, defScope s__law_other, [], []⟩
abbrev s__law_second : Stmt := topS 64
def d__law_second : He.DefD := ⟨("_law_second", none), "_law_second", "_law_second", defArgs s__law_second, defBody s__law_second, defScope s__law_second, [], []⟩
abbrev s__law_app : Stmt := topS 65
def d__law_app : He.DefD := ⟨("_law_app", none), "_law_app", "_law_app", defArgs s__law_app, defBody s__law_app, defScope s__law_app, [], []⟩
abbrev s__law_facts : Stmt := topS 66
def d__law_facts : He.DefD := ⟨("_law_facts", none), "_law_facts", "_law_facts", defArgs s__law_facts, defBody s__law_facts, defScope s__law_facts, [], []⟩
abbrev s__law_can : Stmt := topS 67
def d__law_can : He.DefD := ⟨("_law_can", none), "_law_can", "_law_can", defArgs s__law_can, defBody s__law_can, defScope s__law_can, [], []⟩
abbrev s__law_inside : Stmt := topS 68
def d__law_inside : He.DefD := ⟨("_law_inside", none), "_law_inside", "_law_inside", defArgs s__law_inside, defBody s__law_inside, defScope s__law_inside, [], []⟩
abbrev s__law_spare : Stmt := topS 69
def d__law_spare : He.DefD := ⟨("_law_spare", none), "_law_spare", "_law_spare", defArgs s__law_spare, defBody s__law_spare, defScope s__law_spare, [], []⟩
abbrev s__law_idle : Stmt := topS 70
def d__law_idle : He.DefD := ⟨("_law_idle", none), "_law_idle", "_law_idle", defArgs s__law_idle, defBody s__law_idle, defScope s__law_idle, [], []⟩
abbrev s__law_trimmed : Stmt := topS 71
def d__law_trimmed : He.DefD := ⟨("_law_trimmed", none), "_law_trimmed", "_law_trimmed", defArgs s__law_trimmed, defBody s__law_trimmed, defScope s__law_trimmed, [], []⟩
abbrev s__law_unseen : Stmt := topS 72
def d__law_unseen : He.DefD := ⟨("_law_unseen", none), "_law_unseen", "_law_unseen", defArgs s__law_unseen, defBody s__law_unseen, defScope s__law_unseen, [], []⟩
abbrev s__law_value : Stmt := topS 73
def d__law_value : He.DefD := ⟨("_law_value", none), "_law_value", "_law_value", defArgs s__law_value, defBody s__law_value, defScope s__law_value, [], []⟩
abbrev s__law_sees : Stmt := topS 74
def d__law_sees : He.DefD := ⟨("_law_sees", none), "_law_sees", "_law_sees", defArgs s__law_sees, defBody s__law_sees, defScope s__law_sees, [], []⟩
abbrev s__law_sight : Stmt := topS 75
def d__law_sight : He.DefD := ⟨("_law_sight", none), "_law_sight", "_law_sight", defArgs s__law_sight, defBody s__law_sight, defScope s__law_sight, [], []⟩
abbrev s__law_same : Stmt := topS 76
def d__law_same : He.DefD := ⟨("_law_same", none), "_law_same", "_law_same", defArgs s__law_same, defBody s__law_same, defScope s__law_same, [], []⟩
abbrev s__law_is_term : Stmt := topS 77
def d__law_is_term : He.DefD := ⟨("_law_is_term", none), "_law_is_term", "_law_is_term", defArgs s__law_is_term, defBody s__law_is_term, defScope s__law_is_term, [], []⟩
abbrev s__law_lot_same : Stmt := topS 78
def d__law_lot_same : He.DefD := ⟨("_law_lot_same", none), "_law_lot_same", "_law_lot_same", defArgs s__law_lot_same, defBody s__law_lot_same, defScope s__law_lot_same, [], []⟩
abbrev s__law_windows_right : Stmt := topS 79
def d__law_windows_right : He.DefD := ⟨("_law_windows_right", none), "_law_windows_right", "_law_windows_right", defArgs s__law_windows_right, defBody s__law_windows_right, defScope s__law_windows_right, [], []⟩
abbrev s__law_asks_right : Stmt := topS 80
def d__law_asks_right : He.DefD := ⟨("_law_asks_right", none), "_law_asks_right", "_law_asks_right", defArgs s__law_asks_right, defBody s__law_asks_right, defScope s__law_asks_right, [], []⟩
abbrev s__law_store : Stmt := topS 81
def d__law_store : He.DefD := ⟨("_law_store", none), "_law_store", "_law_store", defArgs s__law_store, defBody s__law_store, defScope s__law_store, [], []⟩
abbrev s__law_sights_right : Stmt := topS 82
def d__law_sights_right : He.DefD := ⟨("_law_sights_right", none), "_law_sights_right", "_law_sights_right", defArgs s__law_sights_right, defBody s__law_sights_right, defScope s__law_sights_right, [], []⟩
abbrev s__law_by_hand : Stmt := topS 83
def d__law_by_hand : He.DefD := ⟨("_law_by_hand", none), "_law_by_hand", "_law_by_hand", defArgs s__law_by_hand, defBody s__law_by_hand, defScope s__law_by_hand, [], []⟩
abbrev s_law : Stmt := topS 84
def d_law : He.DefD := ⟨("law", none), "law", "law", defArgs s_law, defBody s_law, defScope s_law, [], []⟩
def fn0 : List He.DefD := [d_named, d_table_of, d_role_of, d_ask_of, d_window_of, d_table_place, d_ask_tables, d_told_fields, d_literal_parts, d_plain_literals, d_beside_literals, d_Classes___init__, d_Classes_top, d_Classes_lots]
def fn1 : List He.DefD := [d_Classes_can_hold, d_can_hold, d_opposite, d_look_fact, d_both_lots, d_all_lots, d_seen_lots, d_unseen_lots, d_same_shows, d_alike_lots, d_some_holds, d_lot_facts, d_is_idle, d_idle_windows]
def fn2 : List He.DefD := [d_lies_in, d_spare_in, d_spare_lots, d_trimmed_windows, d_trimmed, d_sizes, d_WayMaker___init__, d_WayMaker_term, d_WayMaker_fact, d_WayMaker_facts, d_WayMaker_worth, d_WayMaker_naming, d_WayMaker_ways, d_WayMaker_lots]
def fn3 : List He.DefD := [d_WayMaker_put_facts, d_own_maker, d_ask_ways, d_look_value, d_lot_holds, d_show_through, d_show_of, d_is_seen, d_seen_rows, d_table_shows, d_sight_of, d_are_alike, d_tells_nothing, d__law_barn]
def fn4 : List He.DefD := [d__law_bale, d__law_door, d__law_look, d__law_lot, d__law_other, d__law_second, d__law_app, d__law_facts, d__law_can, d__law_inside, d__law_spare, d__law_idle, d__law_trimmed, d__law_unseen]
def fn5 : List He.DefD := [d__law_value, d__law_sees, d__law_sight, d__law_same, d__law_is_term, d__law_lot_same, d__law_windows_right, d__law_asks_right, d__law_store, d__law_sights_right, d__law_by_hand, d_law]
def fn : List He.DefD := fn0 ++ (fn1 ++ (fn2 ++ (fn3 ++ (fn4 ++ (fn5)))))
def fa0 : List He.Fa := [.glo "named", .glo "table_of", .glo "role_of", .glo "ask_of", .glo "window_of", .glo "table_place", .glo "ask_tables", .glo "told_fields", .glo "literal_parts", .glo "plain_literals", .glo "beside_literals", .glo "can_hold", .glo "opposite", .glo "look_fact", .glo "both_lots", .glo "all_lots"]
def fa1 : List He.Fa := [.glo "seen_lots", .glo "unseen_lots", .glo "same_shows", .glo "alike_lots", .glo "some_holds", .glo "lot_facts", .glo "is_idle", .glo "idle_windows", .glo "lies_in", .glo "spare_in", .glo "spare_lots", .glo "trimmed_windows", .glo "trimmed", .glo "sizes", .glo "own_maker", .glo "ask_ways"]
def fa2 : List He.Fa := [.glo "look_value", .glo "lot_holds", .glo "show_through", .glo "show_of", .glo "is_seen", .glo "seen_rows", .glo "table_shows", .glo "sight_of", .glo "are_alike", .glo "tells_nothing", .glo "_law_barn", .glo "_law_bale", .glo "_law_door", .glo "_law_look", .glo "_law_lot", .glo "_law_other"]
def fa3 : List He.Fa := [.glo "_law_second", .glo "_law_app", .glo "_law_facts", .glo "_law_can", .glo "_law_inside", .glo "_law_spare", .glo "_law_idle", .glo "_law_trimmed", .glo "_law_unseen", .glo "_law_value", .glo "_law_sees", .glo "_law_sight", .glo "_law_same", .glo "_law_is_term", .glo "_law_lot_same", .glo "_law_windows_right"]
def fa4 : List He.Fa := [.glo "_law_asks_right", .glo "_law_store", .glo "_law_sights_right", .glo "_law_by_hand", .glo "law", .free "len", .free "tuple", .free "list", .free "int", .free "sorted", .free "sum", .free "min", .free "max", .free "range", .free "enumerate", .free "isinstance"]
def fa5 : List He.Fa := [.free "str", .free "bool", .free "dict", .free "abs", .glo "Classes", .cls "Classes", .mkr "Classes", .noat "Classes" "facts", .noat "Classes" "over", .meth "Classes" "top", .meth "Classes" "lots", .meth "Classes" "can_hold", .glo "WayMaker", .cls "WayMaker", .mkr "WayMaker", .noat "WayMaker" "app"]
def fa6 : List He.Fa := [.noat "WayMaker" "ask", .noat "WayMaker" "role", .noat "WayMaker" "letters", .noat "WayMaker" "beside", .meth "WayMaker" "term", .meth "WayMaker" "fact", .meth "WayMaker" "facts", .meth "WayMaker" "worth", .meth "WayMaker" "naming", .meth "WayMaker" "ways", .meth "WayMaker" "lots", .meth "WayMaker" "put_facts", .glo "OPPOSITES", .glo "OWN"]
def fa : List He.Fa := fa0 ++ (fa1 ++ (fa2 ++ (fa3 ++ (fa4 ++ (fa5 ++ (fa6))))))
def names0 : List PySem.Str := ["_wall", "BeyondError", "NoSuch", "named", "table_of", "role_of", "ask_of", "window_of", "table_place", "ask_tables", "told_fields", "literal_parts", "plain_literals", "beside_literals", "Classes", "can_hold", "OPPOSITES", "opposite", "look_fact", "both_lots", "all_lots", "seen_lots", "unseen_lots", "same_shows", "alike_lots", "some_holds", "lot_facts", "is_idle", "idle_windows", "lies_in"]
def names1 : List PySem.Str := ["spare_in", "spare_lots", "trimmed_windows", "trimmed", "sizes", "OWN", "WayMaker", "own_maker", "ask_ways", "look_value", "lot_holds", "show_through", "show_of", "is_seen", "seen_rows", "table_shows", "sight_of", "are_alike", "tells_nothing", "_law_barn", "_law_bale", "_law_door", "_law_look", "_law_lot", "_law_other", "_law_second", "_law_app", "_law_facts", "_law_can", "_law_inside"]
def names2 : List PySem.Str := ["_law_spare", "_law_idle", "_law_trimmed", "_law_unseen", "_law_value", "_law_sees", "_law_sight", "_law_same", "_law_is_term", "_law_lot_same", "_law_windows_right", "_law_asks_right", "_law_store", "_law_sights_right", "_law_by_hand"]
def names : List PySem.Str := names0 ++ (names1 ++ (names2))
def tbs : List He.Tab := [(fun K => He.ga K "OPPOSITES", ["=", "!"]), (fun K => He.ga K "OWN", ["p", "b"])]
def vls (K : PySem.W.Frag) : Bool := He.valsB K (He.ga K "OPPOSITES") [("=", .str "!"), ("!", .str "=")] && He.valsB K (He.ga K "OWN") [("p", .str "a"), ("b", .str "v")]
end K85

set_option maxRecDepth 100000
set_option maxHeartbeats 0
namespace K85
open PySem PySem.Spec PyProof.Rows L2
abbrev R : PySem.W.OpenRow := PySem.W.OpenLaw.row PySem.Challenge.rw_nothingbeyond_k85_whole_trimmed
abbrev qv : Program := PySem.W.view R.prog [84]
/-! the part of the heap that is looked at: the module's names, what they name, the classes' methods -/
def refs1 (g : Addr → Option Obj) (a : Addr) : List Addr := match g a with
  | some o => He.refsD o
  | none => []
def nsOf (g : Addr → Option Obj) (a : Addr) : List Addr := match g a with
  | some o => (match o.data with
    | .cls cd => refs1 g cd.ns
    | _ => [])
  | none => []
def asX1 (g : Addr → Option Obj) (l1 : List Addr) (l3 : List Addr) : List Addr := mainGlobals :: (l1 ++ (l3 ++ (l1.flatMap (refs1 g) ++ l3.flatMap (refs1 g))))
def asX (g : Addr → Option Obj) : List Addr := asX1 g (refs1 g mainGlobals) ((refs1 g mainGlobals).flatMap (nsOf g))
abbrev Al : Type := He.AlT × Bool
def obs1 (K : PySem.W.Frag) : Al := (He.obsT fa fn tbs K, vls K)
def val1 (w : World) : Al := (He.valT fn tbs w, true)
def frX (g : Addr → Option Obj) : PySem.W.Frag := He.frG g (asX g)
def obsG1 (g : Addr → Option Obj) : Al := obs1 (frX g)
def Says (w : World) (K : PySem.W.Frag) : Prop := obs1 K = val1 w
def hk : PySem.W.Hook where
  α := Al
  obs := fun s => obsG1 s.heap.get?
  val := fun w => val1 w
  says := fun w h => ∃ K : PySem.W.Frag, K.In h ∧ Says w K
  of := fun _ _ e => ⟨_, He.frG_in, e⟩
  keeps := fun _ _ _ ⟨K, hK, c⟩ k => ⟨K, PySem.W.Frag.In.keeps hK k, c⟩
abbrev frS (s : PySem.W.SharedT) : PySem.W.Frag := frX (HandSHeadRun.getT s)
def ob (s : PySem.W.SharedT) : Al := obsG1 (HandSHeadRun.getT s)
theorem ob_eq (s : PySem.W.SharedT) : ob s = hk.obs s.abs := by
  have e : HandSHeadRun.getT s = s.abs.heap.get? := funext (HandSHeadRun.getT_eq s)
  show obsG1 (HandSHeadRun.getT s) = obsG1 s.abs.heap.get?
  rw [e]
theorem run (w : World) : HandSHeadRun.RunEq R qv hk ob 4000 names w := by
  refine PySem.W.byRow2 "special-get-raises" (P := fun w => HandSHeadRun.RunEq R qv hk ob 4000 names w) ?_ ?_ w
  · intro w os
    kernel_rfl
  · intro w os
    kernel_rfl
end K85

set_option maxRecDepth 100000
/-! DL1: a layer of pure data over HandS: what a def reckons as a predicate over data trees, slots as data, own growing lists, opaque values. -/
namespace DL
open PySem L2

/-! ### data in a frozen heap -/
mutual
inductive Da (K : PySem.W.Frag) (B : Hp) : V → PyData → Prop
  | non : Da K B .non .none
  | bl (b : Bool) : Da K B (.bl b) (.bool b)
  | int (i : Int) : Da K B (.int i) (.int i)
  | str (x : Str) : Da K B (.str x) (.str x)
  | lst {a : Addr} {xs : List V} {ds : List PyData} : B a = some (.lst xs) → DaAll K B xs ds → Da K B (.ref a) (.list ds)
  | tup {a : Addr} {xs : List V} {ds : List PyData} : B a = some (.tup xs) → DaAll K B xs ds → Da K B (.ref a) (.tuple ds)
inductive DaAll (K : PySem.W.Frag) (B : Hp) : List V → List PyData → Prop
  | nil : DaAll K B [] []
  | cons {v : V} {vs : List V} {d : PyData} {ds : List PyData} : Da K B v d → DaAll K B vs ds → DaAll K B (v :: vs) (d :: ds)
end
/-- all of H stands in H' -/
def Sub (H H' : Hp) : Prop := ∀ a o, H a = some o → H' a = some o
theorem Sub.refl (H : Hp) : Sub H H := fun _ _ h => h
theorem Sub.trans {H H1 H2 : Hp} (a : Sub H H1) (b : Sub H1 H2) : Sub H H2 := fun c o h => b c o (a c o h)
theorem Sub.new {H : Hp} {p : Addr} {o : HO} (h : H p = none) : Sub H (upd H p o) := fun a u e => by
  rw [upd_ne (ne_of_none e h)]; exact e
theorem Sub.free {H H' : Hp} (e : Sub H H') {l : Addr} (h : H' l = none) : H l = none := by
  cases q : H l with
  | none => rfl
  | some o => rw [e l o q] at h; cases h
theorem Sub.sqT {K : PySem.W.Frag} {H H' : Hp} {a : Addr} {xs : List V} (e : Sub H H') (h : SqT K H a xs) : SqT K H' a xs := by
  rcases h with (h | ⟨o, h⟩) | h
  · exact .inl (.inl (e _ _ h))
  · exact .inl (.inr ⟨o, e _ _ h⟩)
  · exact .inr h
section
variable {K : PySem.W.Frag} {B B' : Hp}
mutual
theorem Da.mono (s : Sub B B') : ∀ {v : V} {d : PyData}, Da K B v d → Da K B' v d
  | _, _, .non => .non
  | _, _, .bl b => .bl b
  | _, _, .int i => .int i
  | _, _, .str x => .str x
  | _, _, .lst h hs => .lst (s _ _ h) (DaAll.mono s hs)
  | _, _, .tup h hs => .tup (s _ _ h) (DaAll.mono s hs)
theorem DaAll.mono (s : Sub B B') : ∀ {vs : List V} {ds : List PyData}, DaAll K B vs ds → DaAll K B' vs ds
  | _, _, .nil => .nil
  | _, _, .cons h hs => .cons (Da.mono s h) (DaAll.mono s hs)
end
mutual
theorem Da.dp : ∀ {v : V} {d : PyData}, Da K B v d → Dp K B v d
  | _, _, .non => .non
  | _, _, .bl b => .bl b
  | _, _, .int i => .int i
  | _, _, .str x => .str x
  | _, _, .lst h hs => .lst (.of h) (DaAll.dp hs)
  | _, _, .tup h hs => .tup (.of h) (DaAll.dp hs)
theorem DaAll.dp : ∀ {vs : List V} {ds : List PyData}, DaAll K B vs ds → DpAll K B vs ds
  | _, _, .nil => .nil
  | _, _, .cons h hs => .cons (Da.dp h) (DaAll.dp hs)
end
mutual
theorem Da.plain : ∀ {v : V} {d : PyData}, Da K B v d → d.plain = true
  | _, _, .non => rfl
  | _, _, .bl b => rfl
  | _, _, .int i => rfl
  | _, _, .str x => rfl
  | _, _, .lst h hs => by simpa [PyData.plain] using DaAll.plain hs
  | _, _, .tup h hs => by simpa [PyData.plain] using DaAll.plain hs
theorem DaAll.plain : ∀ {vs : List V} {ds : List PyData}, DaAll K B vs ds → PyData.plainAll ds = true
  | _, _, .nil => rfl
  | _, _, .cons h hs => by simp [PyData.plainAll, Da.plain h, DaAll.plain hs]
end
theorem DaAll.length : ∀ {vs : List V} {ds : List PyData}, DaAll K B vs ds → vs.length = ds.length
  | _, _, .nil => rfl
  | _, _, .cons _ hs => by simp [DaAll.length hs]
theorem DaAll.get : ∀ {vs : List V} {ds : List PyData} {i : Nat} {d : PyData}, DaAll K B vs ds → ds[i]? = some d → ∃ v, vs[i]? = some v ∧ Da K B v d
  | _, _, _, _, .nil, e => by simp at e
  | _, _, 0, _, .cons h _, e => by simp at e; subst e; exact ⟨_, rfl, h⟩
  | _, _, i + 1, d, .cons _ hs, e => by
    obtain ⟨v, h1, h2⟩ := DaAll.get (i := i) (d := d) hs (by simpa using e)
    exact ⟨v, by simpa using h1, h2⟩
theorem DaAll.getV : ∀ {vs : List V} {ds : List PyData} {i : Nat} {v : V}, DaAll K B vs ds → vs[i]? = some v → ∃ d, ds[i]? = some d ∧ Da K B v d
  | _, _, _, _, .nil, e => by simp at e
  | _, _, 0, _, .cons h _, e => by simp at e; subst e; exact ⟨_, rfl, h⟩
  | _, _, i + 1, d, .cons _ hs, e => by
    obtain ⟨v, h1, h2⟩ := DaAll.getV (i := i) (v := d) hs (by simpa using e)
    exact ⟨v, by simpa using h1, h2⟩
theorem DaAll.append : ∀ {vs ws : List V} {ds es : List PyData}, DaAll K B vs ds → DaAll K B ws es → DaAll K B (vs ++ ws) (ds ++ es)
  | _, _, _, _, .nil, h => h
  | _, _, _, _, .cons h hs, h' => .cons h (DaAll.append hs h')
theorem DaAll.take : ∀ {vs : List V} {ds : List PyData} (n : Nat), DaAll K B vs ds → DaAll K B (vs.take n) (ds.take n)
  | _, _, 0, _ => .nil
  | _, _, n + 1, .nil => .nil
  | _, _, n + 1, .cons h hs => .cons h (DaAll.take n hs)
theorem DaAll.drop : ∀ {vs : List V} {ds : List PyData} (n : Nat), DaAll K B vs ds → DaAll K B (vs.drop n) (ds.drop n)
  | _, _, 0, h => h
  | _, _, n + 1, .nil => .nil
  | _, _, n + 1, .cons h hs => DaAll.drop n hs
theorem DaAll.reverse : ∀ {vs : List V} {ds : List PyData}, DaAll K B vs ds → DaAll K B vs.reverse ds.reverse
  | _, _, .nil => .nil
  | _, _, .cons h hs => by
    rw [List.reverse_cons, List.reverse_cons]
    exact (DaAll.reverse hs).append (.cons h .nil)
end

/-! ### what may change though it is not the def's own -/
structure Res where
  T : Addr → Prop
  R : Hp → Hp → Prop
  stab : ∀ {B H B' H' : Hp}, R B H → Sub B B' → (∀ a, T a → H' a = H a) → R B' H'
/-- nothing -/
def Res.none : Res := ⟨fun _ => False, fun _ _ => True, fun _ _ _ => trivial⟩

structure Ext (Z : Res) (B H B' H' : Hp) : Prop where
  b : Sub B B'
  h : ∀ a o, H a = some o → ¬ Z.T a → H' a = some o
  f : ∀ a, B a = none → H a ≠ none → B' a = none
structure Wf (Z : Res) (B H : Hp) : Prop where
  bh : Sub B H
  r : Z.R B H
  tb : ∀ a, Z.T a → B a = none
  th : ∀ a, Z.T a → H a ≠ none
section
variable {Z : Res} {B H B1 H1 B2 H2 : Hp}
theorem Ext.refl (Z : Res) (B H : Hp) : Ext Z B H B H := ⟨Sub.refl _, fun _ _ h _ => h, fun _ h _ => h⟩
theorem Ext.trans (w : Wf Z B H) (a : Ext Z B H B1 H1) (w1 : Wf Z B1 H1) (b : Ext Z B1 H1 B2 H2) : Ext Z B H B2 H2 :=
  ⟨a.b.trans b.b, fun c o h n => b.h c o (a.h c o h n) n, fun c h n => by
    refine b.f c (a.f c h n) ?_
    by_cases t : Z.T c
    · exact w1.th c t
    · cases e : H c with
      | none => exact absurd e n
      | some o => rw [a.h c o e t]; simp⟩
/-- a new frozen object -/
theorem Ext.new {p : Addr} {o : HO} (w : Wf Z B H) (hp : H p = none) : Ext Z B H (upd B p o) (upd H p o) :=
  ⟨Sub.new (w.bh.free hp), fun a u h _ => Sub.new hp a u h, fun a h n => by
    rw [upd_ne (by rintro rfl; exact n hp)]; exact h⟩
theorem Wf.new {p : Addr} {o : HO} (w : Wf Z B H) (hp : H p = none) : Wf Z (upd B p o) (upd H p o) :=
  ⟨fun a u h => by
    by_cases e : a = p
    · subst e; rw [upd_same] at h ⊢; exact h
    · rw [upd_ne e] at h ⊢; exact w.bh a u h,
   Z.stab w.r (Sub.new (w.bh.free hp)) fun a t => upd_ne (by rintro rfl; exact w.th _ t hp),
   fun a t => by rw [upd_ne (by rintro rfl; exact w.th _ t hp)]; exact w.tb a t,
   fun a t => by rw [upd_ne (by rintro rfl; exact w.th _ t hp)]; exact w.th a t⟩
/-- a new object that is not frozen -/
theorem Ext.newH {p : Addr} {o : HO} (hp : H p = none) : Ext Z B H B (upd H p o) :=
  ⟨Sub.refl _, fun a u h _ => Sub.new hp a u h, fun a h _ => h⟩
theorem Wf.newH {p : Addr} {o : HO} (w : Wf Z B H) (hp : H p = none) : Wf Z B (upd H p o) :=
  ⟨fun a u h => Sub.new hp a u (w.bh a u h),
   Z.stab w.r (Sub.refl _) fun a t => upd_ne (by rintro rfl; exact w.th _ t hp),
   w.tb, fun a t => by rw [upd_ne (by rintro rfl; exact w.th _ t hp)]; exact w.th a t⟩
/-- an object of H that is not in B is changed -/
theorem Wf.chg {p : Addr} {o : HO} (w : Wf Z B H) (hb : B p = none) (ht : ¬ Z.T p) : Wf Z B (upd H p o) :=
  ⟨fun a u h => by rw [upd_ne (by rintro rfl; rw [h] at hb; cases hb)]; exact w.bh a u h,
   Z.stab w.r (Sub.refl _) fun a t => upd_ne (by rintro rfl; exact ht t),
   w.tb, fun a t => by rw [upd_ne (by rintro rfl; exact ht t)]; exact w.th a t⟩
/-- an object of H becomes frozen -/
theorem Wf.frz {p : Addr} {o : HO} (w : Wf Z B H) (hp : H p = some o) (hb : B p = none) (ht : ¬ Z.T p) : Wf Z (upd B p o) H :=
  ⟨fun a u h => by
    by_cases e : a = p
    · subst e; rw [upd_same] at h; rw [hp]; exact h
    · rw [upd_ne e] at h; exact w.bh a u h,
   Z.stab w.r (Sub.new hb) fun _ _ => rfl,
   fun a t => by rw [upd_ne (by rintro rfl; exact ht t)]; exact w.tb a t, w.th⟩
end

/-! ### slots -/
/-- what is known of a value in the frozen heap -/
def FP : Type := { P : Hp → V → Prop // ∀ B B' v, Sub B B' → P B v → P B' v }
inductive DV where
  | d (x : PyData)
  | l (xs : List PyData)
  | o (v : V)
  | p (P : FP)
abbrev En := List (Option DV)
/-- the def's entry: what may change, the frozen heap, the heap -/
structure Cy where
  Z : Res
  B0 : Hp
  H0 : Hp
def SV (K : PySem.W.Frag) (Y : Cy) (B H : Hp) : DV → V → Prop
  | .d x, v => Da K B v x
  | .l xs, v => ∃ p vs, v = .ref p ∧ H p = some (.lst vs) ∧ B p = none ∧ Y.H0 p = none ∧ DaAll K B vs xs
  | .o v', v => v = v'
  | .p P, v => P.1 B v
structure SI (K : PySem.W.Frag) (Y : Cy) (en : En) (σ : St) (B H : Hp) : Prop where
  wf : Wf Y.Z B H
  w0 : Wf Y.Z Y.B0 Y.H0
  ex : Ext Y.Z Y.B0 Y.H0 B H
  len : en.length = σ.length
  slot : ∀ (i : Nat) (x : DV), en[i]? = some (some x) → ∃ v, σ[i]? = some (some v) ∧ SV K Y B H x v
  sep : ∀ (i j : Nat) (xs ys : List PyData) (p : Addr), en[i]? = some (some (.l xs)) → en[j]? = some (some (.l ys)) → σ[i]? = some (some (.ref p)) → σ[j]? = some (some (.ref p)) → i = j
section
variable {K : PySem.W.Frag} {Y : Cy} {en : En} {σ : St} {B H B' H' : Hp} {x : DV} {v : V}
theorem SV.ext (w : Wf Y.Z B H) (w0 : Wf Y.Z Y.B0 Y.H0) (e : Ext Y.Z B H B' H') (h : SV K Y B H x v) : SV K Y B' H' x v := by
  cases x with
  | d x => exact Da.mono e.b h
  | l xs =>
    obtain ⟨p, vs, rfl, hp, hb, h0, ha⟩ := h
    have ht : ¬ Y.Z.T p := fun t => w0.th p t h0
    exact ⟨p, vs, rfl, e.h p _ hp ht, e.f p hb (by rw [hp]; simp), h0, ha.mono e.b⟩
  | o v' => exact h
  | p P => exact P.2 _ _ _ e.b h
theorem SI.ext (I : SI K Y en σ B H) (e : Ext Y.Z B H B' H') (w : Wf Y.Z B' H') : SI K Y en σ B' H' :=
  ⟨w, I.w0, I.ex.trans I.w0 I.wf e, I.len, fun i x h => by
    obtain ⟨v, h1, h2⟩ := I.slot i x h
    exact ⟨v, h1, h2.ext I.wf I.w0 e⟩, I.sep⟩
end

/-! ### the judgement of expressions -/
abbrev EW := En → (DV → Prop) → Prop
def tD (K : PySem.W.Frag) (Y : Cy) (w : EW) : TE := fun σ H Q => ∃ en B, SI K Y en σ B H ∧ w en fun x => ∀ v B' H', Ext Y.Z B H B' H' → Wf Y.Z B' H' → SV K Y B' H' x v → Q v H'
structure DE (X : Cx) (Y : Cy) (e : Expr) (w : EW) : Prop where
  pe : PE X e (tD X.K Y w)
  mono : ∀ (en : En) (Q Q' : DV → Prop), (∀ x, Q x → Q' x) → w en Q → w en Q'
theorem peW {X : Cx} {e : Expr} {t t' : TE} (h : PE X e t) (i : ∀ σ H Q, t' σ H Q → t σ H Q) : PE X e t' := ⟨fun pins s σ H Q I q => h.run pins s σ H Q I (i _ _ _ q)⟩
theorem ptW {X : Cx} {e : Expr} {t t' : TT} (h : PT X e t) (i : ∀ σ H Q, t' σ H Q → t σ H Q) : PT X e t' := ⟨fun pins s σ H Q I q => h.run pins s σ H Q I (i _ _ _ q)⟩
theorem psW {X : Cx} {e : Stmt} {t t' : TS} (h : PS X e t) (i : ∀ D σ H, t' D σ H → t D σ H) : PS X e t' := ⟨fun pins s σ H D I q => h.run pins s σ H D I (i _ _ _ q)⟩
theorem pssW {X : Cx} {e : List Stmt} {t t' : TS} (h : PSs X e t) (i : ∀ D σ H, t' D σ H → t D σ H) : PSs X e t' := ⟨fun pins s σ H D I q => h.run pins s σ H D I (i _ _ _ q)⟩
theorem paW {X : Cx} {es : List Expr} {t t' : TA} (h : PA X es t) (i : ∀ σ H Q, t' σ H Q → t σ H Q) : PA X es t' := ⟨fun pos pins s σ H Q I q => h.run pos pins s σ H Q I (i _ _ _ q)⟩

def slotOf : En → Nat → Option DV
  | [], _ => none
  | x :: _, 0 => x
  | _ :: r, n + 1 => slotOf r n
theorem slotOf_eq : ∀ (en : En) (i : Nat) (x : DV), slotOf en i = some x → en[i]? = some (some x)
  | [], _, _, h => by cases h
  | y :: _, 0, x, h => by simpa [slotOf] using h
  | _ :: r, n + 1, x, h => by simpa using slotOf_eq r n x h

def wVar (i : Nat) : EW := fun en Q => match slotOf en i with
  | some x => Q x
  | none => False
def wC (d : PyData) : EW := fun _ Q => Q (.d d)
section
variable {X : Cx} {Y : Cy} {a b c e : Expr} {wa wb wc : EW} {pos : Pos}
theorem de_var (i : Nat) {x : Str} (hN : X.N[i]? = some x := by rfl) (hv : Vis X.env.scope x := by first | exact Or.inl rfl | exact Or.inr (Or.inl rfl) | exact Or.inr (Or.inr rfl)) (hd : (x == ("__debug__" : Str)) = false := by decide)
    (hcd : (x == ("__classdict__" : Str)) = false := by decide) : DE X Y (.Name x pos) (wVar i) := by
  refine ⟨peW (pv i hN hv hd hcd) fun σ H Q ⟨en, B, I, h⟩ => ?_, fun en Q Q' i h => ?_⟩
  · unfold wVar at h
    split at h
    · rename_i x hx
      obtain ⟨v, h1, h2⟩ := I.slot i x (slotOf_eq _ _ _ hx)
      exact ⟨v, h1, h v B H (Ext.refl _ _ _) I.wf h2⟩
    · exact h.elim
  · unfold wVar at h ⊢
    split at h
    · exact i _ h
    · exact h
theorem deC {e : Expr} {d : PyData} {v : V} (h : PE X e (tC v)) (hv : ∀ B, Da X.K B v d) : DE X Y e (wC d) :=
  ⟨peW h fun _ H _ ⟨_, B, I, q⟩ => q v B H (Ext.refl _ _ _) I.wf (hv B), fun _ _ _ i h => i _ h⟩
theorem de_int {i j} : DE X Y (.Constant (.int i) j pos) (wC (.int i)) := deC pe_int fun _ => .int i
theorem de_bl {b j} : DE X Y (.Constant (.bool b) j pos) (wC (.bool b)) := deC pe_bl fun _ => .bl b
theorem de_non {j} : DE X Y (.Constant .none j pos) (wC .none) := deC pe_non fun _ => .non
theorem de_str {x j} : DE X Y (.Constant (.str x) j pos) (wC (.str x)) := deC pe_str fun _ => .str x

/-! ### argument lists -/
def wArgs : List EW → En → (List DV → Prop) → Prop
  | [], _, Q => Q []
  | w :: r, en, Q => w en fun x => wArgs r en fun xs => Q (x :: xs)
inductive SVs (K : PySem.W.Frag) (Y : Cy) (B H : Hp) : List DV → List V → Prop
  | nil : SVs K Y B H [] []
  | cons {x : DV} {v : V} {xs : List DV} {vs : List V} : SV K Y B H x v → SVs K Y B H xs vs → SVs K Y B H (x :: xs) (v :: vs)
def tDA (K : PySem.W.Frag) (Y : Cy) (w : En → (List DV → Prop) → Prop) : TA := fun σ H Q => ∃ en B, SI K Y en σ B H ∧ w en fun xs => ∀ vs B' H', Ext Y.Z B H B' H' → Wf Y.Z B' H' → SVs K Y B' H' xs vs → Q vs H'
structure DA (X : Cx) (Y : Cy) (es : List Expr) (ws : List EW) : Prop where
  pa : PA X es (tDA X.K Y (wArgs ws))
  mono : ∀ (en : En) (Q Q' : List DV → Prop), (∀ x, Q x → Q' x) → wArgs ws en Q → wArgs ws en Q'
  len : ∀ (en : En) (Q : List DV → Prop), wArgs ws en Q → wArgs ws en fun xs => xs.length = es.length ∧ Q xs
theorem da_nil : DA X Y [] [] := ⟨paW pa_nil fun _ H _ ⟨_, B, I, h⟩ => h [] B H (Ext.refl _ _ _) I.wf .nil, fun _ _ _ i h => i _ h, fun _ _ h => ⟨rfl, h⟩⟩
theorem da_cons {es : List Expr} {ws : List EW} (ha : DE X Y a wa) (hr : DA X Y es ws) (hs : starEach (a :: es) X.env = (false, eval a X.env) :: starEach es X.env := by rfl) : DA X Y (a :: es) (wa :: ws) := by
  refine ⟨paW (pa_cons ha.pe hr.pa hs) fun σ H Q ⟨en, B, I, h⟩ => ⟨en, B, I, ?_⟩, fun en Q Q' i h => ?_, fun en Q h => ha.mono en _ _ (fun x h => hr.mono en _ _ (fun xs ⟨e, q⟩ => ⟨by simp [e], q⟩) (hr.len en _ h)) h⟩
  · refine ha.mono en _ _ (fun x h v B' H' e w s => ?_) (show wa en _ from h)
    refine ⟨en, B', I.ext e w, hr.mono en _ _ (fun xs h vs B2 H2 e2 w2 s2 => ?_) h⟩
    exact h _ _ _ (e.trans I.wf w e2) w2 (.cons (s.ext w I.w0 e2) s2)
  · exact ha.mono en _ _ (fun x h => hr.mono en _ _ (fun xs h => i _ h) h) h
end
end DL

set_option maxRecDepth 100000
set_option maxHeartbeats 1000000
namespace DL
open PySem L2

/-! ### operations on data -/
abbrev F1 := PyData → (PyData → Prop) → Prop
abbrev F2 := PyData → PyData → (PyData → Prop) → Prop
def Mono1 (f : F1) : Prop := ∀ x (Q Q' : PyData → Prop), (∀ d, Q d → Q' d) → f x Q → f x Q'
def Mono2 (f : F2) : Prop := ∀ x y (Q Q' : PyData → Prop), (∀ d, Q d → Q' d) → f x y Q → f x y Q'
def onD : DV → (PyData → Prop) → Prop
  | .d x, k => k x
  | _, _ => False
theorem onD_mono {x : DV} {k k' : PyData → Prop} (h : onD x k) (i : ∀ d, k d → k' d) : onD x k' := by
  cases x with
  | d x => exact i _ h
  | l _ => exact h.elim
  | o _ => exact h.elim
  | p _ => exact h.elim
/-- data wanted of a result -/
def WD (K : PySem.W.Frag) (Y : Cy) (B H : Hp) (Q : VK) : PyData → Prop := fun d => ∀ v B' H', Ext Y.Z B H B' H' → Wf Y.Z B' H' → Da K B' v d → Q v H'
def rD (K : PySem.W.Frag) (Y : Cy) (f : F2) : R2 := fun x y H Q => ∃ B dx dy, Wf Y.Z B H ∧ Da K B x dx ∧ Da K B y dy ∧ f dx dy (WD K Y B H Q)
def OpD (X : Cx) (Y : Cy) (g : Value → Value → Sem Value) (f : F2) : Prop := OpR X g (rD X.K Y f)
def wOp (f : F2) (wa wb : EW) : EW := fun en Q => wa en fun x => onD x fun dx => wb en fun y => onD y fun dy => f dx dy fun d => Q (.d d)
section
variable {X : Cx} {Y : Cy} {a b c e : Expr} {wa wb wc : EW} {pos : Pos} {f : F2}
theorem here (K : PySem.W.Frag) {Y : Cy} {B H : Hp} {Q : VK} {d : PyData} {v : V} (w : Wf Y.Z B H) (h : WD K Y B H Q d) (hd : Da K B v d) : Q v H := h v B H (Ext.refl _ _ _) w hd
theorem newT (K : PySem.W.Frag) {Y : Cy} {B H : Hp} {Q : VK} {xs : List V} {ds : List PyData} (w : Wf Y.Z B H) (h : WD K Y B H Q (.tuple ds)) (hd : DaAll K B xs ds) {p : Addr} (hp : H p = none) : Q (.ref p) (upd H p (.tup xs)) :=
  h _ _ _ (Ext.new w hp) (w.new hp) (.tup upd_same (hd.mono (Sub.new (w.bh.free hp))))
theorem newL (K : PySem.W.Frag) {Y : Cy} {B H : Hp} {Q : VK} {xs : List V} {ds : List PyData} (w : Wf Y.Z B H) (h : WD K Y B H Q (.list ds)) (hd : DaAll K B xs ds) {p : Addr} (hp : H p = none) : Q (.ref p) (upd H p (.lst xs)) :=
  h _ _ _ (Ext.new w hp) (w.new hp) (.lst upd_same (hd.mono (Sub.new (w.bh.free hp))))
theorem rDop (hf : Mono2 f) (ha : DE X Y a wa) (hb : DE X Y b wb) {σ : L2.St} {H : Hp} {Q : VK} (h : tD X.K Y (wOp f wa wb) σ H Q) : tOp (rD X.K Y f) (tD X.K Y wa) (tD X.K Y wb) σ H Q := by
  obtain ⟨en, B, I, h⟩ := h
  refine ⟨en, B, I, ha.mono en _ _ (fun x h v B1 H1 e1 w1 s1 => ?_) h⟩
  cases x with
  | l _ => exact h.elim
  | o _ => exact h.elim
  | p _ => exact h.elim
  | d dx =>
    refine ⟨en, B1, I.ext e1 w1, hb.mono en _ _ (fun y h u B2 H2 e2 w2 s2 => ?_) h⟩
    cases y with
    | l _ => exact h.elim
    | o _ => exact h.elim
    | p _ => exact h.elim
    | d dy =>
      refine ⟨B2, dx, dy, w2, Da.mono e2.b s1, s2, hf dx dy _ _ (fun d h v B3 H3 e3 w3 s3 => ?_) h⟩
      exact h _ _ _ ((e1.trans I.wf w1 e2).trans I.wf w2 e3) w3 s3
theorem wOp_mono (hf : Mono2 f) (ha : DE X Y a wa) (hb : DE X Y b wb) : ∀ (en : En) (Q Q' : DV → Prop), (∀ x, Q x → Q' x) → wOp f wa wb en Q → wOp f wa wb en Q' := fun en Q Q' i h =>
  ha.mono en _ _ (fun _ h => onD_mono h fun _ h => hb.mono en _ _ (fun _ h => onD_mono h fun _ h => hf _ _ _ _ (fun _ h => i _ h) h) h) h
theorem de_op {op : Operator} (ho : OpD X Y (binaryOp op) f) (hf : Mono2 f) (ha : DE X Y a wa) (hb : DE X Y b wb) : DE X Y (.BinOp a op b pos) (wOp f wa wb) :=
  ⟨peW (pe_op ho ha.pe hb.pe) fun _ _ _ h => rDop hf ha hb h, wOp_mono hf ha hb⟩
theorem de_cmp {op : CmpOp} (ho : OpD X Y (compareOp op) f) (hf : Mono2 f) (ha : DE X Y a wa) (hb : DE X Y b wb) (hm : behindInMarks op b = false := by first | exact nomark _ | rfl | (with_unfolding_all rfl)) : DE X Y (.Compare a [op] [b] pos) (wOp f wa wb) :=
  ⟨peW (pe_cmpR ho ha.pe hb.pe hm) fun _ _ _ h => rDop hf ha hb h, wOp_mono hf ha hb⟩

/-! ### tests -/
abbrev TW := En → (Bool → Prop) → Prop
def tDT (K : PySem.W.Frag) (Y : Cy) (w : TW) : TT := fun σ H Q => ∃ en B, SI K Y en σ B H ∧ w en fun x => ∀ B' H', Ext Y.Z B H B' H' → Wf Y.Z B' H' → Q x H'
structure DT (X : Cx) (Y : Cy) (e : Expr) (w : TW) : Prop where
  pt : PT X e (tDT X.K Y w)
  mono : ∀ (en : En) (Q Q' : Bool → Prop), (∀ x, Q x → Q' x) → w en Q → w en Q'
def asB : PyData → (Bool → Prop) → Prop
  | .bool b, Q => Q b
  | _, _ => False
theorem asB_mono {x : PyData} {k k' : Bool → Prop} (h : asB x k) (i : ∀ d, k d → k' d) : asB x k' := by
  cases x <;> first | exact i _ h | exact h.elim
def wOpT (f : F2) (wa wb : EW) : TW := fun en Q => wa en fun x => onD x fun dx => wb en fun y => onD y fun dy => f dx dy fun d => asB d Q
theorem dt_cmp {op : CmpOp} (ho : OpD X Y (compareOp op) f) (hf : Mono2 f) (ha : DE X Y a wa) (hb : DE X Y b wb) (hm : behindInMarks op b = false := by first | exact nomark _ | rfl | (with_unfolding_all rfl)) : DT X Y (.Compare a [op] [b] pos) (wOpT f wa wb) := by
  refine ⟨ptW (pt_cmpR ho ha.pe hb.pe hm) fun σ H Q ⟨en, B, I, h⟩ => rDop hf ha hb ⟨en, B, I, ?_⟩, fun en Q Q' i h => ?_⟩
  · refine ha.mono en _ _ (fun _ h => onD_mono h fun _ h => hb.mono en _ _ (fun _ h => onD_mono h fun _ h => hf _ _ _ _ (fun d h v B' H' e w s => ?_) h) h) h
    cases d <;> first | exact h.elim | skip
    cases s
    exact ⟨_, rfl, h _ _ e w⟩
  · exact ha.mono en _ _ (fun _ h => onD_mono h fun _ h => hb.mono en _ _ (fun _ h => onD_mono h fun _ h => hf _ _ _ _ (fun d h => asB_mono h i) h) h) h
def truD : PyData → (Bool → Prop) → Prop
  | .none, Q => Q false
  | .bool b, Q => Q b
  | .int i, Q => Q (i != 0)
  | .str y, Q => y.length ≤ sizeLine ∧ Q ((y.length : Int) != 0)
  | .list xs, Q => Q (!xs.isEmpty)
  | .tuple xs, Q => Q (!xs.isEmpty)
  | .dict _, _ => False
def truV : DV → (Bool → Prop) → Prop
  | .d x, Q => truD x Q
  | .l xs, Q => Q (!xs.isEmpty)
  | .o _, _ => False
  | .p _, _ => False
theorem truD_mono {x : PyData} {k k' : Bool → Prop} (h : truD x k) (i : ∀ d, k d → k' d) : truD x k' := by
  cases x <;> first | exact i _ h | exact h.elim | exact ⟨h.1, i _ h.2⟩
theorem truV_mono {x : DV} {k k' : Bool → Prop} (h : truV x k) (i : ∀ d, k d → k' d) : truV x k' := by
  cases x with
  | d x => exact truD_mono h i
  | l xs => exact i _ h
  | o _ => exact h.elim
  | p _ => exact h.elim
def wTru (wa : EW) : TW := fun en Q => wa en fun x => truV x Q
theorem DaAll.isEmpty {K : PySem.W.Frag} {B : Hp} {xs : List V} {ds : List PyData} (h : DaAll K B xs ds) : xs.isEmpty = ds.isEmpty := by cases h <;> rfl
theorem dt_tru (ha : DE X Y a wa) (he : ∀ whole, isTrue a X.env whole = (do let v ← whole; standAt a.pos; holding [v] (truthy v)) := by intro _; rfl) : DT X Y a (wTru wa) := by
  refine ⟨ptW (pt_truth ha.pe he) fun σ H Q ⟨en, B, I, h⟩ => ⟨en, B, I, ha.mono en _ _ (fun x h v B' H' e w s => ?_) h⟩, fun en Q Q' i h => ha.mono en _ _ (fun _ h => truV_mono h i) h⟩
  cases x with
  | o _ => exact h.elim
  | p _ => exact h.elim
  | l xs =>
    obtain ⟨p, vs, rfl, hp, _, _, hd⟩ := s
    exact ⟨_, .inl ⟨vs, .of hp, rfl⟩, by rw [hd.isEmpty]; exact h _ _ e w⟩
  | d x =>
    cases s with
    | non => exact ⟨_, rfl, h _ _ e w⟩
    | bl b => exact ⟨_, rfl, h _ _ e w⟩
    | int i => exact ⟨_, rfl, h _ _ e w⟩
    | str y => exact ⟨_, ⟨h.1, rfl⟩, h.2 _ _ e w⟩
    | lst hp hd => exact ⟨_, .inl ⟨_, .of (w.bh _ _ hp), rfl⟩, by rw [hd.isEmpty]; exact h _ _ e w⟩
    | tup hp hd => exact ⟨_, .inr (.inl ⟨_, SqT.of (w.bh _ _ hp), rfl⟩), by rw [hd.isEmpty]; exact h _ _ e w⟩
/-- a test that is a boolean expression's value -/
def wB (wa : EW) : TW := fun en Q => wa en fun x => onD x fun d => asB d Q
def wNotT (wt : TW) : TW := fun en Q => wt en fun b => Q (!b)
theorem dt_not {wt : TW} (h : DT X Y a wt) : DT X Y (.UnaryOp .Not a pos) (wNotT wt) :=
  ⟨ptW (pt_not h.pt) fun σ H Q ⟨en, B, I, q⟩ => ⟨en, B, I, h.mono en _ _ (fun _ q => q) q⟩, fun en Q Q' i q => h.mono en _ _ (fun _ q => i _ q) q⟩
/-! and, or as tests -/
structure DW (X : Cx) (Y : Cy) (e : Expr) (w : TW) : Prop where
  pt : PW X e (tDT X.K Y w)
  mono : ∀ (en : En) (Q Q' : Bool → Prop), (∀ x, Q x → Q' x) → w en Q → w en Q'
theorem DW.dt {wt : TW} (h : DW X Y e wt) : DT X Y e wt := ⟨h.pt.pt, h.mono⟩
theorem pwW {X : Cx} {e : Expr} {t t' : TT} (h : PW X e t) (i : ∀ σ H Q, t' σ H Q → t σ H Q) : PW X e t' := ⟨fun whole pins s σ H Q I q => h.run whole pins s σ H Q I (i _ _ _ q)⟩
def wAndT (t u : TW) : TW := fun en Q => t en fun b => match b with
  | true => u en Q
  | false => Q false
def wOrT (t u : TW) : TW := fun en Q => t en fun b => match b with
  | true => Q true
  | false => u en Q
theorem dw_and1 {wt : TW} (h : DT X Y a wt) : DW X Y (.BoolOp .And [a] pos) wt := ⟨pw_and1 h.pt, h.mono⟩
theorem dw_or1 {wt : TW} (h : DT X Y a wt) : DW X Y (.BoolOp .Or [a] pos) wt := ⟨pw_or1 h.pt, h.mono⟩
theorem dw_and {rest : List Expr} {wt wu : TW} (h : DT X Y a wt) (h2 : DW X Y (.BoolOp .And (b :: rest) pos) wu) : DW X Y (.BoolOp .And (a :: b :: rest) pos) (wAndT wt wu) := by
  refine ⟨pwW (pw_and h.pt h2.pt) fun σ H Q ⟨en, B, I, q⟩ => ⟨en, B, I, h.mono en _ _ (fun k q B' H' e w => ?_) q⟩, fun en Q Q' i q => h.mono en _ _ (fun k q => ?_) q⟩
  · cases k with
    | true => exact iteT ⟨en, B', I.ext e w, h2.mono en _ _ (fun k q B2 H2 e2 w2 => q _ _ (e.trans I.wf w e2) w2) q⟩
    | false => exact iteF (q _ _ e w)
  · cases k with
    | true => exact h2.mono en _ _ i q
    | false => exact i _ q
theorem dw_or {rest : List Expr} {wt wu : TW} (h : DT X Y a wt) (h2 : DW X Y (.BoolOp .Or (b :: rest) pos) wu) : DW X Y (.BoolOp .Or (a :: b :: rest) pos) (wOrT wt wu) := by
  refine ⟨pwW (pw_or h.pt h2.pt) fun σ H Q ⟨en, B, I, q⟩ => ⟨en, B, I, h.mono en _ _ (fun k q B' H' e w => ?_) q⟩, fun en Q Q' i q => h.mono en _ _ (fun k q => ?_) q⟩
  · cases k with
    | true => exact iteT (q _ _ e w)
    | false => exact iteF ⟨en, B', I.ext e w, h2.mono en _ _ (fun k q B2 H2 e2 w2 => q _ _ (e.trans I.wf w e2) w2) q⟩
  · cases k with
    | true => exact i _ q
    | false => exact h2.mono en _ _ i q
/-! as values: not; and, or of booleans -/
def wNot (wa : EW) : EW := fun en Q => wa en fun x => onD x fun d => asB d fun b => Q (.d (.bool (!b)))
theorem de_not (ha : DE X Y a wa) : DE X Y (.UnaryOp .Not a pos) (wNot wa) := by
  refine ⟨peW (pe_not ha.pe) fun σ H Q ⟨en, B, I, h⟩ => ⟨en, B, I, ha.mono en _ _ (fun x h v B' H' e w s => ?_) h⟩, fun en Q Q' i h => ha.mono en _ _ (fun _ h => onD_mono h fun _ h => asB_mono h fun _ h => i _ h) h⟩
  cases x <;> try exact h.elim
  rename_i d
  cases d <;> try exact h.elim
  cases s
  exact ⟨_, rfl, h _ _ _ e w (.bl _)⟩
def wAnd (wa wb : EW) : EW := fun en Q => wa en fun x => onD x fun d => asB d fun b => match b with
  | true => wb en Q
  | false => Q (.d (.bool false))
def wOr (wa wb : EW) : EW := fun en Q => wa en fun x => onD x fun d => asB d fun b => match b with
  | true => Q (.d (.bool true))
  | false => wb en Q
theorem de_one {op : BoolOp} (h : DE X Y a wa) : DE X Y (.BoolOp op [a] pos) wa := ⟨pe_one h.pe, h.mono⟩
theorem de_and {rest : List Expr} (ha : DE X Y a wa) (hb : DE X Y (.BoolOp .And (b :: rest) pos) wb) : DE X Y (.BoolOp .And (a :: b :: rest) pos) (wAnd wa wb) := by
  refine ⟨peW (pe_and ha.pe hb.pe) fun σ H Q ⟨en, B, I, h⟩ => ⟨en, B, I, ha.mono en _ _ (fun x h v B' H' e w s => ?_) h⟩, fun en Q Q' i h => ha.mono en _ _ (fun _ h => onD_mono h fun _ h => asB_mono h fun k h => ?_) h⟩
  · cases x <;> try exact h.elim
    rename_i d
    cases d <;> try exact h.elim
    rename_i k
    cases s
    refine ⟨_, rfl, ?_⟩
    cases k with
    | true => exact iteT ⟨en, B', I.ext e w, hb.mono en _ _ (fun _ q v B2 H2 e2 w2 s2 => q _ _ _ (e.trans I.wf w e2) w2 s2) h⟩
    | false => exact iteF (h _ _ _ e w (.bl _))
  · cases k with
    | true => exact hb.mono en _ _ i h
    | false => exact i _ h
theorem de_or {rest : List Expr} (ha : DE X Y a wa) (hb : DE X Y (.BoolOp .Or (b :: rest) pos) wb) : DE X Y (.BoolOp .Or (a :: b :: rest) pos) (wOr wa wb) := by
  refine ⟨peW (pe_or ha.pe hb.pe) fun σ H Q ⟨en, B, I, h⟩ => ⟨en, B, I, ha.mono en _ _ (fun x h v B' H' e w s => ?_) h⟩, fun en Q Q' i h => ha.mono en _ _ (fun _ h => onD_mono h fun _ h => asB_mono h fun k h => ?_) h⟩
  · cases x <;> try exact h.elim
    rename_i d
    cases d <;> try exact h.elim
    rename_i k
    cases s
    refine ⟨_, rfl, ?_⟩
    cases k with
    | true => exact iteT (h _ _ _ e w (.bl _))
    | false => exact iteF ⟨en, B', I.ext e w, hb.mono en _ _ (fun _ q v B2 H2 e2 w2 s2 => q _ _ _ (e.trans I.wf w e2) w2 s2) h⟩
  · cases k with
    | true => exact i _ h
    | false => exact hb.mono en _ _ i h
def wIfE (wt : TW) (wa wb : EW) : EW := fun en Q => wt en fun k => match k with
  | true => wa en Q
  | false => wb en Q
theorem de_if {wt : TW} (hc : DT X Y c wt) (ha : DE X Y a wa) (hb : DE X Y b wb) : DE X Y (.IfExp c a b pos) (wIfE wt wa wb) := by
  refine ⟨peW (pe_ifExp hc.pt ha.pe hb.pe) fun σ H Q ⟨en, B, I, h⟩ => ⟨en, B, I, hc.mono en _ _ (fun k h B' H' e w => ?_) h⟩, fun en Q Q' i h => hc.mono en _ _ (fun k h => ?_) h⟩
  · cases k with
    | true => exact iteT ⟨en, B', I.ext e w, ha.mono en _ _ (fun _ q v B2 H2 e2 w2 s2 => q _ _ _ (e.trans I.wf w e2) w2 s2) h⟩
    | false => exact iteF ⟨en, B', I.ext e w, hb.mono en _ _ (fun _ q v B2 H2 e2 w2 s2 => q _ _ _ (e.trans I.wf w e2) w2 s2) h⟩
  · cases k with
    | true => exact ha.mono en _ _ i h
    | false => exact hb.mono en _ _ i h
end

/-! ### the operators -/
def addF : F2
  | .int i, .int j, Q => Q (.int (i + j))
  | .str i, .str j, Q => i.length + j.length ≤ sizeLine ∧ Q (.str (i ++ j))
  | .tuple xs, .tuple ys, Q => xs.length + ys.length ≤ sizeLine ∧ Q (.tuple (xs ++ ys))
  | .list xs, .list ys, Q => xs.length + ys.length ≤ sizeLine ∧ Q (.list (xs ++ ys))
  | _, _, _ => False
def subF : F2
  | .int i, .int j, Q => Q (.int (i - j))
  | _, _, _ => False
def mulF : F2
  | .int i, .int j, Q => CMul i j ∧ Q (.int (i * j))
  | _, _, _ => False
def modF : F2
  | .int i, .int j, Q => 0 < j ∧ Q (.int (i % j))
  | _, _, _ => False
def fdivF : F2
  | .int i, .int j, Q => CDiv i j ∧ Q (.int (i / j))
  | _, _, _ => False
def ltF : F2
  | .int i, .int j, Q => Q (.bool (decide (i < j)))
  | _, _, _ => False
def leF : F2
  | .int i, .int j, Q => Q (.bool (decide (i ≤ j)))
  | _, _, _ => False
def gtF : F2
  | .int i, .int j, Q => Q (.bool (decide (j < i)))
  | _, _, _ => False
def geF : F2
  | .int i, .int j, Q => Q (.bool (decide (j ≤ i)))
  | _, _, _ => False
def eqF : F2 := fun x y Q => min x.depth y.depth ≤ 60 ∧ Q (.bool (PyData.eqv x y))
def neF : F2 := fun x y Q => min x.depth y.depth ≤ 60 ∧ Q (.bool (!PyData.eqv x y))
def inF : F2
  | x, .list xs, Q => min (PyData.depthAll xs) x.depth ≤ 60 ∧ Q (.bool (xs.any fun y => PyData.eqv y x))
  | x, .tuple xs, Q => min (PyData.depthAll xs) x.depth ≤ 60 ∧ Q (.bool (xs.any fun y => PyData.eqv y x))
  | _, _, _ => False
def ninF : F2
  | x, .list xs, Q => min (PyData.depthAll xs) x.depth ≤ 60 ∧ Q (.bool (!xs.any fun y => PyData.eqv y x))
  | x, .tuple xs, Q => min (PyData.depthAll xs) x.depth ≤ 60 ∧ Q (.bool (!xs.any fun y => PyData.eqv y x))
  | _, _, _ => False
theorem m_add : Mono2 addF := fun x y Q Q' i h => by
  cases x <;> cases y <;> first | exact h.elim | exact i _ h | exact ⟨h.1, i _ h.2⟩
theorem m_sub : Mono2 subF := fun x y Q Q' i h => by
  cases x <;> cases y <;> first | exact h.elim | exact i _ h | exact ⟨h.1, i _ h.2⟩
theorem m_mul : Mono2 mulF := fun x y Q Q' i h => by
  cases x <;> cases y <;> first | exact h.elim | exact i _ h | exact ⟨h.1, i _ h.2⟩
theorem m_mod : Mono2 modF := fun x y Q Q' i h => by
  cases x <;> cases y <;> first | exact h.elim | exact i _ h | exact ⟨h.1, i _ h.2⟩
theorem m_fdiv : Mono2 fdivF := fun x y Q Q' i h => by
  cases x <;> cases y <;> first | exact h.elim | exact i _ h | exact ⟨h.1, i _ h.2⟩
theorem m_lt : Mono2 ltF := fun x y Q Q' i h => by
  cases x <;> cases y <;> first | exact h.elim | exact i _ h | exact ⟨h.1, i _ h.2⟩
theorem m_le : Mono2 leF := fun x y Q Q' i h => by
  cases x <;> cases y <;> first | exact h.elim | exact i _ h | exact ⟨h.1, i _ h.2⟩
theorem m_gt : Mono2 gtF := fun x y Q Q' i h => by
  cases x <;> cases y <;> first | exact h.elim | exact i _ h | exact ⟨h.1, i _ h.2⟩
theorem m_ge : Mono2 geF := fun x y Q Q' i h => by
  cases x <;> cases y <;> first | exact h.elim | exact i _ h | exact ⟨h.1, i _ h.2⟩
theorem m_eq : Mono2 eqF := fun x y Q Q' i h => ⟨h.1, i _ h.2⟩
theorem m_ne : Mono2 neF := fun x y Q Q' i h => ⟨h.1, i _ h.2⟩
theorem m_in : Mono2 inF := fun x y Q Q' i h => by
  cases y <;> first | (cases x <;> exact h.elim) | (cases x <;> exact ⟨h.1, i _ h.2⟩)
theorem m_nin : Mono2 ninF := fun x y Q Q' i h => by
  cases y <;> first | (cases x <;> exact h.elim) | (cases x <;> exact ⟨h.1, i _ h.2⟩)
section
variable {X : Cx} {Y : Cy}
theorem o_add : OpD X Y (binaryOp .Add) addF := by
  intro pins s σ H x y v u Q I rx ry ⟨B, dx, dy, wf, hx, hy, h⟩
  cases hx with
  | non => cases hy <;> exact h.elim
  | bl => cases hy <;> exact h.elim
  | int i =>
    cases hy <;> try exact h.elim
    exact op_add pins s σ H _ _ v u Q I rx ry ⟨_, _, rfl, rfl, here X.K wf h (.int _)⟩
  | str i =>
    cases hy <;> try exact h.elim
    exact op_add_str pins s σ H _ _ v u Q I rx ry ⟨_, _, rfl, rfl, h.1, here X.K wf h.2 (.str _)⟩
  | lst hp hd =>
    cases hy <;> try exact h.elim
    rename_i hp' hd'
    exact op_cat pins s σ H _ _ v u Q I rx ry ⟨_, _, _, _, rfl, rfl, wf.bh _ _ hp, wf.bh _ _ hp', by rw [hd.length, hd'.length]; exact h.1, fun p hn => newL X.K wf h.2 (hd.append hd') hn⟩
  | tup hp hd =>
    cases hy <;> try exact h.elim
    rename_i hp' hd'
    refine op_catA pins s σ H _ _ v u Q I rx ry ⟨_, _, _, _, rfl, rfl, SqT.of (wf.bh _ _ hp), SqT.of (wf.bh _ _ hp'), by rw [hd.length, hd'.length]; exact h.1, fun e => ?_, fun _ e => ?_, fun _ _ p hn => newT X.K wf h.2 (hd.append hd') hn⟩
    · subst e; cases hd
      exact here X.K wf h.2 (.tup hp' hd')
    · subst e; cases hd'
      have q := h.2
      rw [List.append_nil] at q
      exact here X.K wf q (.tup hp hd)
theorem o_int {g : Value → Value → Sem Value} {k : Int → Int → PyData} {kv : Int → Int → V} {f : F2} (hr : OpR X g (rI0 kv)) (hk : ∀ B i j, Da X.K B (kv i j) (k i j))
    (hf : ∀ x y Q, f x y Q → ∃ i j, x = .int i ∧ y = .int j ∧ Q (k i j)) : OpD X Y g f := by
  intro pins s σ H x y v u Q I rx ry ⟨B, dx, dy, wf, hx, hy, h⟩
  obtain ⟨i, j, rfl, rfl, q⟩ := hf _ _ _ h
  cases hx
  cases hy
  exact hr pins s σ H _ _ v u Q I rx ry ⟨_, _, rfl, rfl, here X.K wf q (hk _ _ _)⟩
theorem o_intC {g : Value → Value → Sem Value} {C : Int → Int → Prop} {k : Int → Int → PyData} {kv : Int → Int → V} {f : F2} (hr : OpR X g (rI C kv)) (hk : ∀ B i j, Da X.K B (kv i j) (k i j))
    (hf : ∀ x y Q, f x y Q → ∃ i j, x = .int i ∧ y = .int j ∧ C i j ∧ Q (k i j)) : OpD X Y g f := by
  intro pins s σ H x y v u Q I rx ry ⟨B, dx, dy, wf, hx, hy, h⟩
  obtain ⟨i, j, rfl, rfl, c, q⟩ := hf _ _ _ h
  cases hx
  cases hy
  exact hr pins s σ H _ _ v u Q I rx ry ⟨_, _, rfl, rfl, c, here X.K wf q (hk _ _ _)⟩
theorem two {f : F2} {P : PyData → PyData → (PyData → Prop) → Prop} (h : ∀ i j Q, f (.int i) (.int j) Q → P (.int i) (.int j) Q) (h' : ∀ x y Q, f x y Q → ∃ i j, x = .int i ∧ y = .int j) : ∀ x y Q, f x y Q → P x y Q := fun x y Q q => by
  obtain ⟨i, j, rfl, rfl⟩ := h' x y Q q
  exact h i j Q q
theorem o_sub : OpD X Y (binaryOp .Sub) subF := o_int op_sub (k := fun i j => .int (i - j)) (fun _ _ _ => .int _) fun x y Q h => by
  cases x <;> cases y <;> first | exact h.elim | exact ⟨_, _, rfl, rfl, h⟩
theorem o_mul : OpD X Y (binaryOp .Mult) mulF := o_intC op_mul (k := fun i j => .int (i * j)) (fun _ _ _ => .int _) fun x y Q h => by
  cases x <;> cases y <;> first | exact h.elim | exact ⟨_, _, rfl, rfl, h⟩
theorem o_mod : OpD X Y (binaryOp .Mod) modF := o_intC op_mod (k := fun i j => .int (i % j)) (fun _ _ _ => .int _) fun x y Q h => by
  cases x <;> cases y <;> first | exact h.elim | exact ⟨_, _, rfl, rfl, h⟩
theorem o_fdiv : OpD X Y (binaryOp .FloorDiv) fdivF := o_intC op_fdiv (k := fun i j => .int (i / j)) (fun _ _ _ => .int _) fun x y Q h => by
  cases x <;> cases y <;> first | exact h.elim | exact ⟨_, _, rfl, rfl, h⟩
theorem o_lt : OpD X Y (compareOp .Lt) ltF := o_int op_lt (k := fun i j => .bool (decide (i < j))) (fun _ _ _ => .bl _) fun x y Q h => by
  cases x <;> cases y <;> first | exact h.elim | exact ⟨_, _, rfl, rfl, h⟩
theorem o_le : OpD X Y (compareOp .LtE) leF := o_int op_le (k := fun i j => .bool (decide (i ≤ j))) (fun _ _ _ => .bl _) fun x y Q h => by
  cases x <;> cases y <;> first | exact h.elim | exact ⟨_, _, rfl, rfl, h⟩
theorem o_gt : OpD X Y (compareOp .Gt) gtF := o_int op_gt (k := fun i j => .bool (decide (j < i))) (fun _ _ _ => .bl _) fun x y Q h => by
  cases x <;> cases y <;> first | exact h.elim | exact ⟨_, _, rfl, rfl, h⟩
theorem o_ge : OpD X Y (compareOp .GtE) geF := o_int op_ge (k := fun i j => .bool (decide (j ≤ i))) (fun _ _ _ => .bl _) fun x y Q h => by
  cases x <;> cases y <;> first | exact h.elim | exact ⟨_, _, rfl, rfl, h⟩
theorem o_eq (hu : X.A.units + 64 < cLine) : OpD X Y (compareOp .Eq) eqF := by
  intro pins s σ H x y v u Q I rx ry ⟨B, dx, dy, wf, hx, hy, h⟩
  obtain ⟨as, r1⟩ := Dp.reads I dx x v (hx.mono wf.bh).dp rx
  obtain ⟨bs, r2⟩ := Dp.reads I dy y u (hy.mono wf.bh).dp ry
  exact SeqAt.eq_plain r1 r2 hx.plain hy.plain (by have := h.1; omega) ⟨.bl _, H, I, rfl, here X.K wf h.2 (.bl _)⟩
theorem o_ne (hu : X.A.units + 64 < cLine) : OpD X Y (compareOp .NotEq) neF := by
  intro pins s σ H x y v u Q I rx ry ⟨B, dx, dy, wf, hx, hy, h⟩
  obtain ⟨as, r1⟩ := Dp.reads I dx x v (hx.mono wf.bh).dp rx
  obtain ⟨bs, r2⟩ := Dp.reads I dy y u (hy.mono wf.bh).dp ry
  exact SeqAt.ne_plain r1 r2 hx.plain hy.plain (by have := h.1; omega) ⟨.bl _, H, I, rfl, here X.K wf h.2 (.bl _)⟩
theorem o_in (hu : X.A.units + 64 < cLine) : OpD X Y (compareOp .In) inF := by
  intro pins s σ H x y v u Q I rx ry ⟨B, dx, dy, wf, hx, hy, h⟩
  obtain ⟨as, r1⟩ := Dp.reads I dx x v (hx.mono wf.bh).dp rx
  obtain ⟨bs, r2⟩ := Dp.reads I dy y u (hy.mono wf.bh).dp ry
  have p2 := hy.plain
  cases dy with
  | list ds => exact SeqAt.in_list_data r2 r1 (by simpa [PyData.plain] using p2) hx.plain (by have := h.1; omega) ⟨.bl _, H, I, rfl, here X.K wf h.2 (.bl _)⟩
  | tuple ds => exact SeqAt.in_tuple_data r2 r1 (by simpa [PyData.plain] using p2) hx.plain (by have := h.1; omega) ⟨.bl _, H, I, rfl, here X.K wf h.2 (.bl _)⟩
  | _ => cases dx <;> exact h.elim
theorem o_nin (hu : X.A.units + 64 < cLine) : OpD X Y (compareOp .NotIn) ninF := by
  intro pins s σ H x y v u Q I rx ry ⟨B, dx, dy, wf, hx, hy, h⟩
  obtain ⟨as, r1⟩ := Dp.reads I dx x v (hx.mono wf.bh).dp rx
  obtain ⟨bs, r2⟩ := Dp.reads I dy y u (hy.mono wf.bh).dp ry
  have p2 := hy.plain
  cases dy with
  | list ds => exact SeqAt.notIn_list_data r2 r1 (by simpa [PyData.plain] using p2) hx.plain (by have := h.1; omega) ⟨.bl _, H, I, rfl, here X.K wf h.2 (.bl _)⟩
  | tuple ds => exact SeqAt.notIn_tuple_data r2 r1 (by simpa [PyData.plain] using p2) hx.plain (by have := h.1; omega) ⟨.bl _, H, I, rfl, here X.K wf h.2 (.bl _)⟩
  | _ => cases dx <;> exact h.elim
end
end DL

set_option maxRecDepth 100000
set_option maxHeartbeats 1000000
namespace DL
open PySem L2

/-! ### items, slices, None, displays -/
def ixF : F2
  | .list xs, .int i, Q => match atI xs i with
    | some d => Q d
    | none => False
  | .tuple xs, .int i, Q => match atI xs i with
    | some d => Q d
    | none => False
  | .str z, .int i, Q => z.length ≤ sizeLine ∧ match atI z.cps.toList i with
    | some c => Q (.str ⟨#[c]⟩)
    | none => False
  | _, _, _ => False
theorem m_ix : Mono2 ixF := fun x y Q Q' i h => by
  cases x <;> cases y <;> try exact h.elim
  · simp only [ixF] at h ⊢
    refine ⟨h.1, ?_⟩
    have h2 := h.2
    split at h2 <;> rename_i e
    · exact i _ h2
    · exact h2.elim
  · simp only [ixF] at h ⊢
    split at h <;> rename_i e
    · exact i _ h
    · exact h
  · simp only [ixF] at h ⊢
    split at h <;> rename_i e
    · exact i _ h
    · exact h
/-- the list that a value stands for -/
def asL : DV → PyData
  | .d x => x
  | .l xs => .list xs
  | .o _ => .none
  | .p _ => .none
def wIx (wa wb : EW) : EW := fun en Q => wa en fun x => wb en fun y => onD y fun dy => ixF (asL x) dy fun d => Q (.d d)
theorem atI_da {K : PySem.W.Frag} {B : Hp} {xs : List V} {ds : List PyData} {i : Int} {d : PyData} (h : DaAll K B xs ds) (e : atI ds i = some d) : ∃ v, atI xs i = some v ∧ Da K B v d := by
  unfold atI at e ⊢
  rw [h.length]
  cases q : ixN ds.length i with
  | none => rw [q] at e; cases e
  | some j =>
    rw [q] at e
    exact h.get (show ds[j]? = some d from e)
section
variable {X : Cx} {Y : Cy} {a b c e : Expr} {wa wb wc : EW} {pos : Pos} {f : F2}
theorem ixR_any : IxR X (fun x y H Q => rIxL X.K x y H Q ∨ rIxT X.K x y H Q ∨ rIxS x y H Q) := ix_seq
theorem SV.noLater {K : PySem.W.Frag} {B H : Hp} {x : DV} {v : V} (h : SV K Y B H x v) (w : Wf Y.Z B H) : (∃ ds xs p, v = .ref p ∧ SqL K H p xs ∧ DaAll K B xs ds ∧ asL x = .list ds) ∨ Da K B v (asL x) ∨ (asL x = .none) := by
  cases x with
  | d x => exact .inr (.inl h)
  | o u => exact .inr (.inr rfl)
  | p u => exact .inr (.inr rfl)
  | l xs =>
    obtain ⟨p, vs, rfl, hp, _, _, hd⟩ := h
    exact .inl ⟨xs, vs, p, rfl, .of hp, hd, rfl⟩
theorem de_ix (ha : DE X Y a wa) (hb : DE X Y b wb) (hs : PlainIx b := by intro _ _; rfl) : DE X Y (.Subscript a b pos) (wIx wa wb) := by
  refine ⟨peW (pe_ix ixR_any ha.pe hb.pe hs) fun σ H Q ⟨en, B, I, h⟩ => ⟨en, B, I, ha.mono en _ _ (fun x h v B1 H1 e1 w1 s1 => ⟨en, B1, I.ext e1 w1, hb.mono en _ _ (fun y h u B2 H2 e2 w2 s2 => ?_) h⟩) h⟩,
    fun en Q Q' i h => ha.mono en _ _ (fun x h => hb.mono en _ _ (fun y h => onD_mono h fun d h => m_ix _ _ _ _ (fun _ h => i _ h) h) h) h⟩
  cases y <;> try exact h.elim
  rename_i dy
  have h : ixF (asL x) dy fun d => ∀ v B' H', Ext Y.Z B H B' H' → Wf Y.Z B' H' → SV X.K Y B' H' (.d d) v → Q v H' := h
  have e12 := e1.trans I.wf w1 e2
  have s1' := s1.ext w1 I.w0 e2
  -- a list of whatever kind
  have one : ∀ (ds : List PyData) (xs : List V) (p : Addr), v = .ref p → SqL X.K H2 p xs → DaAll X.K B2 xs ds → asL x = .list ds → (rIxL X.K v u H2 Q ∨ rIxT X.K v u H2 Q ∨ rIxS v u H2 Q) := by
    intro ds xs p e hp hd ea
    rw [ea] at h
    cases dy <;> try exact h.elim
    cases s2
    simp only [ixF] at h
    split at h <;> rename_i q
    · obtain ⟨z, q1, q2⟩ := atI_da hd q
      exact .inl ⟨p, xs, _, z, e, rfl, hp, q1, h _ _ _ e12 w2 q2⟩
    · exact h.elim
  rcases s1'.noLater w2 with ⟨ds, xs, p, e, hp, hd, ea⟩ | hd | e
  · exact one ds xs p e hp hd ea
  · generalize ea : asL x = dx at hd h one
    cases hd with
    | lst hp hd => exact one _ _ _ rfl (.of (w2.bh _ _ hp)) hd rfl
    | tup hp hd =>
      cases dy <;> try exact h.elim
      cases s2
      simp only [ixF] at h
      split at h <;> rename_i q
      · obtain ⟨z, q1, q2⟩ := atI_da hd q
        exact .inr (.inl ⟨_, _, _, z, rfl, rfl, SqT.of (w2.bh _ _ hp), q1, h _ _ _ e12 w2 q2⟩)
      · exact h.elim
    | str z =>
      cases dy <;> try exact h.elim
      cases s2
      simp only [ixF] at h
      obtain ⟨h1, h⟩ := h
      split at h <;> rename_i q
      · exact .inr (.inr ⟨z, _, _, rfl, rfl, h1, q, h _ _ _ e12 w2 (.str _)⟩)
      · exact h.elim
    | _ => cases dy <;> exact h.elim
  · rw [e] at h
    cases dy <;> exact h.elim

/-! a slice by written or reckoned ends -/
def wPart (w : Option EW) : En → (Option Int → Prop) → Prop := match w with
  | none => fun _ Q => Q none
  | some w => fun en Q => w en fun x => onD x fun d => match d with
    | .int i => Q (some i)
    | _ => False
def tDO (K : PySem.W.Frag) (Y : Cy) (w : En → (Option Int → Prop) → Prop) : TO := fun σ H Q => ∃ en B, SI K Y en σ B H ∧ w en fun o => ∀ B' H', Ext Y.Z B H B' H' → Wf Y.Z B' H' → Q o H'
structure DO (X : Cx) (Y : Cy) (e : Option Expr) (w : Option EW) : Prop where
  po : PO X e (tDO X.K Y (wPart w))
  mono : ∀ (en : En) (Q Q' : Option Int → Prop), (∀ x, Q x → Q' x) → wPart w en Q → wPart w en Q'
theorem poW {X : Cx} {e : Option Expr} {t t' : TO} (h : PO X e t) (i : ∀ σ H Q, t' σ H Q → t σ H Q) : PO X e t' := ⟨fun pins s σ H Q I q => h.run pins s σ H Q I (i _ _ _ q)⟩
theorem do_none : DO X Y none none := ⟨poW po_none fun _ H _ ⟨_, B, I, h⟩ => h B H (Ext.refl _ _ _) I.wf, fun _ _ _ i h => i _ h⟩
theorem do_some (ha : DE X Y a wa) : DO X Y (some a) (some wa) := by
  refine ⟨poW (po_some ha.pe) fun σ H Q ⟨en, B, I, h⟩ => ⟨en, B, I, ha.mono en _ _ (fun x h v B' H' e w s => ?_) h⟩, fun en Q Q' i h => ha.mono en _ _ (fun x h => onD_mono h fun d h => ?_) h⟩
  · cases x <;> try exact h.elim
    rename_i d
    cases d <;> try exact h.elim
    cases s
    exact ⟨_, rfl, h _ _ e w⟩
  · cases d <;> first | exact i _ h | exact h.elim
def cutD (xs : List PyData) (lo hi : Option Int) : List PyData := (xs.drop (HT.sIx xs.length 0 lo)).take (HT.sIx xs.length xs.length hi - HT.sIx xs.length 0 lo)
def slF (x : PyData) (lo hi : Option Int) (Q : PyData → Prop) : Prop := match x with
  | .list xs => Q (.list (cutD xs lo hi))
  | .tuple xs => Q (.tuple (cutD xs lo hi))
  | _ => False
def wSl (wa : EW) (wl wh : Option EW) : EW := fun en Q => wa en fun x => wPart wl en fun lo => wPart wh en fun hi => slF (asL x) lo hi fun d => Q (.d d)
theorem cut_da {K : PySem.W.Frag} {B : Hp} {xs : List V} {ds : List PyData} (h : DaAll K B xs ds) (lo hi : Option Int) : DaAll K B (cutV xs lo hi) (cutD ds lo hi) := by
  unfold cutV cutD
  rw [h.length]
  exact (h.drop _).take _
theorem cut_whole {ds : List PyData} {lo hi : Option Int} (h : HT.sIx ds.length 0 lo = 0 ∧ HT.sIx ds.length ds.length hi = ds.length) : cutD ds lo hi = ds := by
  unfold cutD
  rw [h.1, h.2]
  simp
theorem de_slice {lo hi : Option Expr} {p2 : Pos} {wl wh : Option EW} (ha : DE X Y a wa) (hl : DO X Y lo wl) (hh : DO X Y hi wh) : DE X Y (.Subscript a (.Slice lo hi none p2) pos) (wSl wa wl wh) := by
  refine ⟨peW (pe_slice (sl_list.or sl_tupA) ha.pe hl.po hh.po) fun σ H Q ⟨en, B, I, h⟩ => ⟨en, B, I, ha.mono en _ _ (fun x h v B1 H1 e1 w1 s1 => ⟨en, B1, I.ext e1 w1, hl.mono en _ _ (fun lo h B2 H2 e2 w2 => ⟨en, B2, (I.ext e1 w1).ext e2 w2, hh.mono en _ _ (fun hi h B3 H3 e3 w3 => ?_) h⟩) h⟩) h⟩,
    fun en Q Q' i h => ha.mono en _ _ (fun x h => hl.mono en _ _ (fun lo h => hh.mono en _ _ (fun hi h => ?_) h) h) h⟩
  · have e13 := (e1.trans I.wf w1 e2).trans I.wf w2 e3
    have h : slF (asL x) lo hi fun d => ∀ v B' H', Ext Y.Z B H B' H' → Wf Y.Z B' H' → SV X.K Y B' H' (.d d) v → Q v H' := h
    have h' : slF (asL x) lo hi (WD X.K Y B3 H3 Q) := by
      unfold slF at h ⊢
      split at h
      · exact fun v B' H' e w d => h v B' H' (e13.trans I.wf w3 e) w d
      · exact fun v B' H' e w d => h v B' H' (e13.trans I.wf w3 e) w d
      · exact h
    have s3 := (s1.ext w1 I.w0 e2).ext w2 I.w0 e3
    have one : ∀ (ds : List PyData) (xs : List V) (p : Addr), v = .ref p → SqL X.K H3 p xs → DaAll X.K B3 xs ds → asL x = .list ds → (rSlL X.K v lo hi H3 Q ∨ rSlA X.K v lo hi H3 Q) := by
      intro ds xs p e hp hd ea
      rw [ea] at h'
      exact .inl ⟨p, xs, e, hp, fun q hq => newL X.K w3 h' (cut_da hd _ _) hq⟩
    rcases s3.noLater w3 with ⟨ds, xs, p, e, hp, hd, ea⟩ | hd | e
    · exact one ds xs p e hp hd ea
    · generalize ea : asL x = dx at hd h' one
      cases hd with
      | lst hp hd => exact one _ _ _ rfl (.of (w3.bh _ _ hp)) hd rfl
      | tup hp hd =>
        refine .inr ⟨_, _, rfl, SqT.of (w3.bh _ _ hp), fun q => ?_, fun _ p hn => newT X.K w3 h' (cut_da hd _ _) hn⟩
        rw [hd.length] at q
        rw [slF, cut_whole q] at h'
        exact here X.K w3 h' (.tup hp hd)
      | _ => exact h'.elim
    · rw [e] at h'
      exact h'.elim
  · unfold slF at h ⊢
    split at h
    · exact i _ h
    · exact i _ h
    · exact h

/-! is None -/
def isNone : PyData → Bool
  | .none => true
  | _ => false
def wIsN (neg : Bool) (wa : EW) : EW := fun en Q => wa en fun x => match x with
  | .d d => Q (.d (.bool (neg != isNone d)))
  | .l _ => Q (.d (.bool neg))
  | .o v => v ≠ .non ∧ Q (.d (.bool neg))
  | .p _ => False
theorem Da.isN {K : PySem.W.Frag} {B : Hp} {v : V} {d : PyData} (h : Da K B v d) : decide (v = .non) = isNone d := by
  cases h <;> simp [isNone]
theorem isN_run {K : PySem.W.Frag} {B H : Hp} {x : DV} {v : V} (s : SV K Y B H x v) {P : Bool → Prop} {neg : Bool} (h : match x with
  | .d d => P (neg != isNone d)
  | .l _ => P neg
  | .o v => v ≠ .non ∧ P neg
  | .p _ => False) : P (neg != decide (v = .non)) := by
  cases x with
  | d d => rw [s.isN]; exact h
  | l xs =>
    obtain ⟨p, vs, rfl, _⟩ := s
    have e : (neg != decide (V.ref p = .non)) = neg := by simp
    rw [e]; exact h
  | o u =>
    cases s
    have e : (neg != decide (v = .non)) = neg := by simp [h.1]
    rw [e]; exact h.2
  | p _ => exact h.elim
theorem de_isN {j p2} (ha : DE X Y a wa) : DE X Y (.Compare a [.Is] [.Constant .none j p2] pos) (wIsN false wa) := by
  refine ⟨peW (pe_cmpR op_isN ha.pe pe_non (nomark _)) fun σ H Q ⟨en, B, I, h⟩ => ⟨en, B, I, ha.mono en _ _ (fun x h v B' H' e w s => ⟨rfl, ?_⟩) h⟩, fun en Q Q' i h => ha.mono en _ _ (fun x h => ?_) h⟩
  · have h := isN_run (P := fun b => ∀ v B' H', Ext Y.Z B H B' H' → Wf Y.Z B' H' → SV X.K Y B' H' (.d (.bool b)) v → Q v H') s (neg := false) (by cases x <;> exact h)
    have e2 : (false != decide (v = V.non)) = decide (v = V.non) := by cases decide (v = V.non) <;> rfl
    rw [e2] at h
    exact h _ _ _ e w (.bl _)
  · cases x with
    | d d => exact i _ h
    | l _ => exact i _ h
    | o v => exact ⟨h.1, i _ h.2⟩
    | p _ => exact h.elim
theorem de_notN {j p2} (ha : DE X Y a wa) : DE X Y (.Compare a [.IsNot] [.Constant .none j p2] pos) (wIsN true wa) := by
  refine ⟨peW (pe_cmpR op_notN ha.pe pe_non (nomark _)) fun σ H Q ⟨en, B, I, h⟩ => ⟨en, B, I, ha.mono en _ _ (fun x h v B' H' e w s => ⟨rfl, ?_⟩) h⟩, fun en Q Q' i h => ha.mono en _ _ (fun x h => ?_) h⟩
  · have h := isN_run (P := fun b => ∀ v B' H', Ext Y.Z B H B' H' → Wf Y.Z B' H' → SV X.K Y B' H' (.d (.bool b)) v → Q v H') s (neg := true) (by cases x <;> exact h)
    have e2 : (true != decide (v = V.non)) = !decide (v = V.non) := by cases decide (v = V.non) <;> rfl
    rw [e2] at h
    exact h _ _ _ e w (.bl _)
  · cases x with
    | d d => exact i _ h
    | l _ => exact i _ h
    | o v => exact ⟨h.1, i _ h.2⟩
    | p _ => exact h.elim
/-- a comparison's value as a test -/
def wVT (wa : EW) : TW := fun en Q => wa en fun x => onD x fun d => asB d Q
theorem dt_isN {j p2} (ha : DE X Y a wa) : DT X Y (.Compare a [.Is] [.Constant .none j p2] pos) (wVT (wIsN false wa)) := by
  have hb := de_isN (pos := pos) (j := j) (p2 := p2) ha
  refine ⟨ptW (pt_cmpR op_isN ha.pe pe_non (nomark _)) fun σ H Q ⟨en, B, I, h⟩ => ?_, fun en Q Q' i h => hb.mono en _ _ (fun _ h => onD_mono h fun _ h => asB_mono h i) h⟩
  refine ⟨en, B, I, ha.mono en _ _ (fun x h v B' H' e w s => ⟨rfl, _, rfl, ?_⟩) h⟩
  have h := isN_run (P := fun b => ∀ B' H', Ext Y.Z B H B' H' → Wf Y.Z B' H' → Q b H') s (neg := false) (by cases x <;> exact h)
  have e2 : (false != decide (v = V.non)) = decide (v = V.non) := by cases decide (v = V.non) <;> rfl
  rw [e2] at h
  exact h _ _ e w
theorem dt_notN {j p2} (ha : DE X Y a wa) : DT X Y (.Compare a [.IsNot] [.Constant .none j p2] pos) (wVT (wIsN true wa)) := by
  have hb := de_notN (pos := pos) (j := j) (p2 := p2) ha
  refine ⟨ptW (pt_cmpR op_notN ha.pe pe_non (nomark _)) fun σ H Q ⟨en, B, I, h⟩ => ?_, fun en Q Q' i h => hb.mono en _ _ (fun _ h => onD_mono h fun _ h => asB_mono h i) h⟩
  refine ⟨en, B, I, ha.mono en _ _ (fun x h v B' H' e w s => ⟨rfl, _, rfl, ?_⟩) h⟩
  have h := isN_run (P := fun b => ∀ B' H', Ext Y.Z B H B' H' → Wf Y.Z B' H' → Q b H') s (neg := true) (by cases x <;> exact h)
  have e2 : (true != decide (v = V.non)) = !decide (v = V.non) := by cases decide (v = V.non) <;> rfl
  rw [e2] at h
  exact h _ _ e w

/-! displays -/
def allD : List DV → (List PyData → Prop) → Prop
  | [], Q => Q []
  | x :: r, Q => onD x fun d => allD r fun ds => Q (d :: ds)
theorem allD_mono : ∀ {xs : List DV} {Q Q' : List PyData → Prop}, allD xs Q → (∀ ds, Q ds → Q' ds) → allD xs Q'
  | [], _, _, h, i => i _ h
  | x :: r, _, _, h, i => onD_mono h fun _ h => allD_mono h fun _ h => i _ h
theorem allD_run {K : PySem.W.Frag} {B H : Hp} : ∀ {xs : List DV} {vs : List V} {P : List PyData → Prop}, SVs K Y B H xs vs → allD xs P → ∃ ds, DaAll K B vs ds ∧ P ds
  | _, _, _, .nil, h => ⟨[], .nil, h⟩
  | _, _, _, .cons (x := x) s ss, h => by
    cases x <;> try exact h.elim
    obtain ⟨ds, h1, h2⟩ := allD_run ss h
    exact ⟨_, .cons s h1, h2⟩
def wTup (ws : List EW) : EW := fun en Q => wArgs ws en fun xs => allD xs fun ds => Q (.d (.tuple ds))
def wLst (ws : List EW) : EW := fun en Q => wArgs ws en fun xs => allD xs fun ds => Q (.d (.list ds))
theorem SVs.length {K : PySem.W.Frag} {B H : Hp} : ∀ {xs : List DV} {vs : List V}, SVs K Y B H xs vs → xs.length = vs.length
  | _, _, .nil => rfl
  | _, _, .cons _ s => by simp [SVs.length s]
theorem de_tup {es : List Expr} {ws : List EW} {x1} (h : DA X Y es ws) (hl : es.length ≤ 1000 := by decide) : DE X Y (.Tuple es x1 pos) (wTup ws) := by
  refine ⟨peW (pe_tup h.pa) fun σ H Q ⟨en, B, I, q⟩ => ⟨en, B, I, h.mono en _ _ (fun xs ⟨el, q⟩ vs B' H' e w s => ?_) (h.len en _ q)⟩, fun en Q Q' i q => h.mono en _ _ (fun _ q => allD_mono q fun _ q => i _ q) q⟩
  obtain ⟨ds, hd, q⟩ := allD_run s q
  refine ⟨by rw [← s.length, el]; exact Nat.le_trans hl (by decide), fun p hn => ?_⟩
  exact newT X.K (Q := Q) w (fun v B2 H2 e2 w2 s2 => q v B2 H2 (e.trans I.wf w e2) w2 s2) hd hn
theorem de_lst {es : List Expr} {ws : List EW} (h : DA X Y es ws) (hl : es.length ≤ 1000 := by decide) : DE X Y (.List es pos) (wLst ws) := by
  refine ⟨peW (pe_lst h.pa) fun σ H Q ⟨en, B, I, q⟩ => ⟨en, B, I, h.mono en _ _ (fun xs ⟨el, q⟩ vs B' H' e w s => ?_) (h.len en _ q)⟩, fun en Q Q' i q => h.mono en _ _ (fun _ q => allD_mono q fun _ q => i _ q) q⟩
  obtain ⟨ds, hd, q⟩ := allD_run s q
  refine ⟨by rw [← s.length, el]; exact Nat.le_trans hl (by decide), fun p hn => ?_⟩
  exact newL X.K (Q := Q) w (fun v B2 H2 e2 w2 s2 => q v B2 H2 (e.trans I.wf w e2) w2 s2) hd hn
end
end DL

set_option maxRecDepth 100000
set_option maxHeartbeats 1000000
namespace DL
open PySem L2

/-! ### a def's promise over data -/
abbrev SpD := List DV → (DV → Prop) → Prop
/-- arguments and results: data, or an opaque value -/
def SVp (K : PySem.W.Frag) (B : Hp) : DV → V → Prop
  | .d x, v => Da K B v x
  | .l _, _ => False
  | .o v', v => v = v'
  | .p P, v => P.1 B v
inductive SVps (K : PySem.W.Frag) (B : Hp) : List DV → List V → Prop
  | nil : SVps K B [] []
  | cons {x : DV} {v : V} {xs : List DV} {vs : List V} : SVp K B x v → SVps K B xs vs → SVps K B (x :: xs) (v :: vs)
theorem SVps.length {K : PySem.W.Frag} {B : Hp} : ∀ {xs : List DV} {vs : List V}, SVps K B xs vs → xs.length = vs.length
  | _, _, .nil => rfl
  | _, _, .cons _ s => by simp [SVps.length s]
def DSp (K : PySem.W.Frag) (Z : Res) (sp : SpD) : Sp := fun vs H Q _ => ∃ B xs, Wf Z B H ∧ SVps K B xs vs ∧ sp xs fun x => ∀ v B' H', Ext Z B H B' H' → Wf Z B' H' → SVp K B' x v → Q v H'
def MonoS (sp : SpD) : Prop := ∀ xs (Q Q' : DV → Prop), (∀ x, Q x → Q' x) → sp xs Q → sp xs Q'
/-- a def that is called by its name (with these many arguments: the others stand as they are written) -/
structure Cal (P : Program) (w : World) (K : PySem.W.Frag) (mg : Str → Option Value) (base : Heap) (Z : Res) (k : Nat) (x : Str) (sp : SpD) : Prop where
  ex : ∃ (f : Addr) (fd : FuncData) (ps : List Str) (dvs : List V) (ds : List Value) (sp' : Sp), FnOk P w K mg base CX0 k f fd ps sp' ∧ mg x = some (.ref f) ∧ PySem.W.keepIn K (.ref f) = true ∧ Binds K fd ps ds ∧ Vals dvs ds ∧
    ∀ vs H Q E, DSp K Z sp vs H Q E → sp' (vs ++ dvs) H Q E
  mono : MonoS sp
theorem Cal.up {P : Program} {w : World} {K : PySem.W.Frag} {mg : Str → Option Value} {base : Heap} {Z : Res} {j k : Nat} {x : Str} {sp : SpD} (c : Cal P w K mg base Z j x sp) (h : j ≤ k) : Cal P w K mg base Z k x sp :=
  ⟨let ⟨f, fd, ps, dvs, ds, sp', F, r⟩ := c.ex; ⟨f, fd, ps, dvs, ds, sp', F.mono h, r⟩, c.mono⟩
/-- arguments that are no growing lists -/
def noL : DV → Prop
  | .l _ => False
  | _ => True
def noLs : List DV → Prop
  | [] => True
  | x :: r => noL x ∧ noLs r
def wCall (sp : SpD) (ws : List EW) : EW := fun en Q => wArgs ws en fun xs => noLs xs ∧ sp xs fun x => noL x ∧ Q x
section
variable {X : Cx} {Y : Cy} {a b c e : Expr} {wa wb wc : EW} {pos p : Pos} {f : F2} {K : PySem.W.Frag} {B H : Hp}
theorem SVs.toP : ∀ {xs : List DV} {vs : List V}, SVs K Y B H xs vs → noLs xs → SVps K B xs vs
  | _, _, .nil, _ => .nil
  | _, _, .cons (x := x) s ss, n => .cons (by cases x <;> first | exact s | exact n.1.elim) (SVs.toP ss n.2)
theorem SVp.sv {x : DV} {v : V} (h : SVp K B x v) : SV K Y B H x v := by
  cases x <;> first | exact h | exact h.elim
theorem call_run {sp : SpD} {sp' : Sp} {dvs : List V} (hsp : ∀ vs H Q E, DSp X.K Y.Z sp vs H Q E → sp' (vs ++ dvs) H Q E) (m : MonoS sp) {ws : List EW} {es : List Expr} (ha : DA X Y es ws) {σ : L2.St} {H : Hp} {Q : VK} {E : XK} (h : tD X.K Y (wCall sp ws) σ H Q) : tCall sp' dvs E (tDA X.K Y (wArgs ws)) σ H Q := by
  obtain ⟨en, B, I, h⟩ := h
  refine ⟨en, B, I, ha.mono en _ _ (fun xs ⟨n, h⟩ vs B1 H1 e1 w1 s1 => ?_) h⟩
  refine hsp _ _ _ _ ⟨B1, xs, w1, s1.toP n, m _ _ _ (fun x h v B2 H2 e2 w2 s2 => ?_) h⟩
  exact h.2 _ _ _ (e1.trans I.wf w1 e2) w2 s2.sv
theorem wCall_mono {sp : SpD} (m : MonoS sp) {ws : List EW} {es : List Expr} (ha : DA X Y es ws) : ∀ (en : En) (Q Q' : DV → Prop), (∀ x, Q x → Q' x) → wCall sp ws en Q → wCall sp ws en Q' := fun en Q Q' i h =>
  ha.mono en _ _ (fun xs ⟨n, h⟩ => ⟨n, m _ _ _ (fun x h => ⟨h.1, i _ h.2⟩) h⟩) h
theorem de_call {k j : Nat} {x : Str} {sp : SpD} {ws : List EW} {es : List Expr} (c : Cal X.prog X.w X.K X.mg X.base Y.Z k x sp) (hr : Room j X.A) (hg : Gl X x) (ha : DA X Y (e :: es) ws) (hk : k ≤ j := by decide)
    (hdb : (x == ("__debug__" : Str)) = false := by decide) (he : starEach (e :: es) X.env = (false, eval e X.env) :: starEach es X.env := by rfl) (hpl : (backTo pos (starEach es X.env)).any (·.1) = false := by rfl) :
    DE X Y (.Call (.Name x p) (e :: es) [] pos) (wCall sp ws) := by
  obtain ⟨f, fd, ps, dvs, ds, sp', F, hm, kp, hb, hd, hsp⟩ := c.ex
  exact ⟨peW (pe_call F (hr.mono hk) hg hm kp hb hd pass0 ha.pa hdb he hpl) fun σ H Q h => call_run hsp c.mono ha h, wCall_mono c.mono ha⟩
theorem de_call0 {k j : Nat} {x : Str} {sp : SpD} (c : Cal X.prog X.w X.K X.mg X.base Y.Z k x sp) (hr : Room j X.A) (hg : Gl X x) (hk : k ≤ j := by decide)
    (hdb : (x == ("__debug__" : Str)) = false := by decide) : DE X Y (.Call (.Name x p) [] [] pos) (wCall sp []) := by
  obtain ⟨f, fd, ps, dvs, ds, sp', F, hm, kp, hb, hd, hsp⟩ := c.ex
  refine ⟨peW (pe_call0 F (hr.mono hk) hg hm kp hb hd pass0 hdb) fun σ H Q h => ?_, wCall_mono (X := X) (Y := Y) c.mono da_nil⟩
  obtain ⟨en, B, I, h⟩ := h
  exact hsp [] _ _ _ ⟨B, [], I.wf, .nil, c.mono _ _ _ (fun x h v B2 H2 e2 w2 s2 => h.2 _ _ _ e2 w2 s2.sv) h.2⟩

/-! ### built-ins by their names -/
abbrev FB := List DV → (PyData → Prop) → Prop
def rB (K : PySem.W.Frag) (Y : Cy) (f : FB) : List V → Hp → VK → Prop := fun vs H Q => ∃ B xs, Wf Y.Z B H ∧ SVs K Y B H xs vs ∧ f xs (WD K Y B H Q)
def BltD (X : Cx) (Y : Cy) (f : Value) (g : FB) : Prop := CallR X f (rB X.K Y g)
def MonoB (f : FB) : Prop := ∀ xs (Q Q' : PyData → Prop), (∀ d, Q d → Q' d) → f xs Q → f xs Q'
def wBlt (g : FB) (ws : List EW) : EW := fun en Q => wArgs ws en fun xs => g xs fun d => Q (.d d)
theorem blt_run {g : FB} (m : MonoB g) {ws : List EW} {es : List Expr} (ha : DA X Y es ws) {σ : L2.St} {H : Hp} {Q : VK} (h : tD X.K Y (wBlt g ws) σ H Q) : tCB (rB X.K Y g) (tDA X.K Y (wArgs ws)) σ H Q := by
  obtain ⟨en, B, I, h⟩ := h
  refine ⟨en, B, I, ha.mono en _ _ (fun xs h vs B1 H1 e1 w1 s1 => ⟨B1, xs, w1, s1, m _ _ _ (fun d h v B2 H2 e2 w2 s2 => ?_) h⟩) h⟩
  exact h _ _ _ (e1.trans I.wf w1 e2) w2 s2
theorem de_blt {id : String} {x : Str} {g : FB} {ws : List EW} {es : List Expr} (hc : BltD X Y (.builtin id) g) (m : MonoB g) (hg : Gl X x) (hm : X.mg x = none) (hv : bootBuiltins x = some (.builtin id)) (ha : DA X Y (e :: es) ws) (hn : x ≠ "__name__" := by decide) (hdb : (x == ("__debug__" : Str)) = false := by decide)
    (he : starEach (e :: es) X.env = (false, eval e X.env) :: starEach es X.env := by rfl) (hpl : (backTo pos (starEach es X.env)).any (·.1) = false := by rfl) : DE X Y (.Call (.Name x p) (e :: es) [] pos) (wBlt g ws) :=
  ⟨peW (pe_callB hc hg hm hv ha.pa hn hdb he hpl) fun σ H Q h => blt_run m ha h, fun en Q Q' i h => ha.mono en _ _ (fun xs h => m _ _ _ (fun _ h => i _ h) h) h⟩
theorem de_ty {T : String} {x : Str} {g : FB} {ws : List EW} {es : List Expr} (hc : BltD X Y (.type T) g) (m : MonoB g) (hg : Gl X x) (hm : X.mg x = none) (hv : bootBuiltins x = some (.type T)) (ha : DA X Y (e :: es) ws) (hn : x ≠ "__name__" := by decide) (hdb : (x == ("__debug__" : Str)) = false := by decide)
    (he : starEach (e :: es) X.env = (false, eval e X.env) :: starEach es X.env := by rfl) (hpl : (backTo pos (starEach es X.env)).any (·.1) = false := by rfl) : DE X Y (.Call (.Name x p) (e :: es) [] pos) (wBlt g ws) :=
  ⟨peW (pe_callTy hc hg hm hv ha.pa hn hdb he hpl) fun σ H Q h => blt_run m ha h, fun en Q Q' i h => ha.mono en _ _ (fun xs h => m _ _ _ (fun _ h => i _ h) h) h⟩
def one (k : PyData → (PyData → Prop) → Prop) : FB := fun xs Q => match xs with
  | [x] => k (asL x) Q
  | _ => False
def lenF : F1 := fun x Q => match x with
  | .list xs => Q (.int xs.length)
  | .tuple xs => Q (.int xs.length)
  | .str z => z.length ≤ sizeLine ∧ Q (.int z.length)
  | _ => False
def tupF : F1 := fun x Q => match x with
  | .list xs => Q (.tuple xs)
  | .tuple xs => Q (.tuple xs)
  | _ => False
def listF : F1 := fun x Q => match x with
  | .list xs => Q (.list xs)
  | .tuple xs => Q (.list xs)
  | _ => False
def absF : F1 := fun x Q => match x with
  | .int i => Q (.int (if i < 0 then -i else i))
  | _ => False
def intF : F1 := fun x Q => match x with
  | .int i => Q (.int i)
  | .bool b => Q (.int (if b then 1 else 0))
  | _ => False
def sumF : F1 := fun x Q => match x with
  | .list xs => ∃ ns : List Int, xs = ns.map .int ∧ Q (.int ns.sum)
  | _ => False
theorem mono_one {f : F1} (m : Mono1 f) : MonoB (one f) := fun xs Q Q' i h => by
  match xs, h with
  | [x], h => exact m _ _ _ i h
theorem m_len : Mono1 lenF := fun x Q Q' i h => by
  cases x <;> first | exact h.elim | exact i _ h | exact ⟨h.1, i _ h.2⟩
theorem m_tup : Mono1 tupF := fun x Q Q' i h => by
  cases x <;> first | exact h.elim | exact i _ h
theorem m_list : Mono1 listF := fun x Q Q' i h => by
  cases x <;> first | exact h.elim | exact i _ h
theorem m_abs : Mono1 absF := fun x Q Q' i h => by
  cases x <;> first | exact h.elim | exact i _ h
theorem m_int : Mono1 intF := fun x Q Q' i h => by
  cases x <;> first | exact h.elim | exact i _ h
theorem m_sum : Mono1 sumF := fun x Q Q' i h => by
  cases x <;> first | exact h.elim | exact ⟨_, h.choose_spec.1, i _ h.choose_spec.2⟩
theorem svs1 {x : DV} {vs : List V} (h : SVs K Y B H [x] vs) : ∃ v, vs = [v] ∧ SV K Y B H x v := by
  cases h with
  | cons s t => cases t; exact ⟨_, rfl, s⟩
theorem one_run {f : F1} {xs : List DV} {vs : List V} {Q : PyData → Prop} (s : SVs K Y B H xs vs) (w : Wf Y.Z B H) (h : one f xs Q) : ∃ v x, vs = [v] ∧ f x Q ∧ ((∃ ds us p, v = .ref p ∧ SqL K H p us ∧ DaAll K B us ds ∧ x = .list ds) ∨ Da K B v x ∨ x = .none) := by
  match xs, h with
  | [x], h =>
    obtain ⟨v, e, s⟩ := svs1 s
    refine ⟨v, asL x, e, h, ?_⟩
    rcases s.noLater w with h1 | h1 | h1
    · exact .inl h1
    · exact .inr (.inl h1)
    · exact .inr (.inr h1)
theorem b_len : BltD X Y (.builtin "len") (one lenF) := by
  intro pins s σ H vs us Q I r ⟨B, xs, w, sv, h⟩
  obtain ⟨v, x, rfl, h, k⟩ := one_run sv w h
  refine call_len pins s σ H _ us Q I r ?_
  rcases k with ⟨ds, ys, p, rfl, hp, hd, rfl⟩ | hd | rfl
  · exact ⟨_, _, rfl, .inl ⟨_, hp, rfl⟩, here X.K w h (by rw [hd.length]; exact .int _)⟩
  · cases hd <;> try exact h.elim
    · exact ⟨_, _, rfl, ⟨h.1, rfl⟩, here X.K w h.2 (.int _)⟩
    · rename_i hp hd
      exact ⟨_, _, rfl, .inl ⟨_, .of (w.bh _ _ hp), rfl⟩, here X.K w h (by rw [hd.length]; exact .int _)⟩
    · rename_i hp hd
      exact ⟨_, _, rfl, .inr ⟨_, SqT.of (w.bh _ _ hp), rfl⟩, here X.K w h (by rw [hd.length]; exact .int _)⟩
  · exact h.elim
theorem b_tuple : BltD X Y (.type "tuple") (one tupF) := by
  intro pins s σ H vs us Q I r ⟨B, xs, w, sv, h⟩
  obtain ⟨v, x, rfl, h, k⟩ := one_run sv w h
  refine call_tuple_of pins s σ H _ us Q I r ?_
  rcases k with ⟨ds, ys, p, rfl, hp, hd, rfl⟩ | hd | rfl
  · exact ⟨_, _, rfl, .inl ⟨hp, fun l hl => newT X.K w h hd hl⟩⟩
  · cases hd <;> try exact h.elim
    · rename_i hp hd
      exact ⟨_, _, rfl, .inl ⟨.of (w.bh _ _ hp), fun l hl => newT X.K w h hd hl⟩⟩
    · rename_i hp hd
      exact ⟨_, _, rfl, .inr ⟨SqT.of (w.bh _ _ hp), here X.K w h (.tup hp hd)⟩⟩
  · exact h.elim
theorem b_list : BltD X Y (.type "list") (one listF) := by
  intro pins s σ H vs us Q I r ⟨B, xs, w, sv, h⟩
  obtain ⟨v, x, rfl, h, k⟩ := one_run sv w h
  refine call_list_of pins s σ H _ us Q I r ?_
  rcases k with ⟨ds, ys, p, rfl, hp, hd, rfl⟩ | hd | rfl
  · exact ⟨_, _, rfl, .inl hp, fun l hl => newL X.K w h hd hl⟩
  · cases hd <;> try exact h.elim
    · rename_i hp hd
      exact ⟨_, _, rfl, .inl (.of (w.bh _ _ hp)), fun l hl => newL X.K w h hd hl⟩
    · rename_i hp hd
      exact ⟨_, _, rfl, .inr (SqT.of (w.bh _ _ hp)), fun l hl => newL X.K w h hd hl⟩
  · exact h.elim
theorem b_abs : BltD X Y (.builtin "abs") (one absF) := by
  intro pins s σ H vs us Q I r ⟨B, xs, w, sv, h⟩
  obtain ⟨v, x, rfl, h, k⟩ := one_run sv w h
  refine call_abs pins s σ H _ us Q I r ?_
  rcases k with ⟨ds, ys, p, rfl, hp, hd, rfl⟩ | hd | rfl
  · exact h.elim
  · cases hd <;> try exact h.elim
    exact ⟨_, rfl, here X.K w h (.int _)⟩
  · exact h.elim
theorem b_int : BltD X Y (.type "int") (one intF) := by
  intro pins s σ H vs us Q I r ⟨B, xs, w, sv, h⟩
  obtain ⟨v, x, rfl, h, k⟩ := one_run sv w h
  refine call_int1 pins s σ H _ us Q I r ?_
  rcases k with ⟨ds, ys, p, rfl, hp, hd, rfl⟩ | hd | rfl
  · exact h.elim
  · cases hd <;> try exact h.elim
    · exact .inr ⟨_, rfl, here X.K w h (.int _)⟩
    · exact .inl ⟨_, rfl, here X.K w h (.int _)⟩
  · exact h.elim
theorem DaAll.ints : ∀ {vs : List V} {ns : List Int}, DaAll K B vs (ns.map .int) → vs = ns.map V.int
  | _, [], .nil => rfl
  | _, n :: ns, .cons h hs => by cases h; rw [DaAll.ints hs]; rfl
theorem b_sum (hc : X.calm = true) : BltD X Y (.builtin "sum") (one sumF) := by
  intro pins s σ H vs us Q I r ⟨B, xs, w, sv, h⟩
  obtain ⟨v, x, rfl, h, k⟩ := one_run sv w h
  refine cr_sum hc pins s σ H _ us Q I r ?_
  rcases k with ⟨ds, ys, p, rfl, hp, hd, rfl⟩ | hd | rfl
  · obtain ⟨ns, rfl, h⟩ := h
    rw [hd.ints] at hp
    exact ⟨_, ns, rfl, hp, here X.K w h (.int _)⟩
  · cases hd <;> try exact h.elim
    rename_i hp hd
    obtain ⟨ns, rfl, h⟩ := h
    rw [hd.ints] at hp
    exact ⟨_, ns, rfl, .of (w.bh _ _ hp), here X.K w h (.int _)⟩
  · exact h.elim
end
end DL

set_option maxRecDepth 100000
set_option maxHeartbeats 1000000
namespace DL
open PySem L2

/-! ### slots set -/
section
variable {K : PySem.W.Frag} {Y : Cy} {en : En} {σ : L2.St} {B H B' H' : Hp} {x : DV} {v : V} {i : Nat}
theorem get_set {α : Type} {l : List α} {i j : Nat} {a b : α} (h : (l.set i a)[j]? = some b) : (i = j ∧ b = a ∧ i < l.length) ∨ (i ≠ j ∧ l[j]? = some b) := by
  by_cases e : i = j
  · subst e
    by_cases hl : i < l.length
    · rw [List.getElem?_set_self hl] at h; cases h; exact .inl ⟨rfl, rfl, hl⟩
    · rw [List.getElem?_eq_none (by simpa using hl)] at h; cases h
  · rw [List.getElem?_set_ne e] at h; exact .inr ⟨e, h⟩
theorem SI.put (I : SI K Y en σ B H) (s : SV K Y B H x v) (hs : ∀ xs : List PyData, x = .l xs → ∀ (j : Nat) (ys : List PyData), j ≠ i → en[j]? = some (some (.l ys)) → σ[j]? ≠ some (some v)) : SI K Y (en.set i (some x)) (σ.set i (some v)) B H :=
  ⟨I.wf, I.w0, I.ex, by simpa using I.len, fun j y h => by
    rcases get_set h with ⟨e, e2, hl⟩ | ⟨e, h⟩
    · cases e2; subst e
      exact ⟨v, List.getElem?_set_self (by rw [← I.len]; exact hl), s⟩
    · obtain ⟨u, h1, h2⟩ := I.slot j y h
      exact ⟨u, by rw [List.getElem?_set_ne e]; exact h1, h2⟩,
   fun j k xs ys p h1 h2 g1 g2 => by
    rcases get_set h1 with ⟨e, e2, hl⟩ | ⟨e, h1⟩
    · subst e
      rcases get_set h2 with ⟨e', _, _⟩ | ⟨e', h2⟩
      · exact e'
      · rw [List.getElem?_set_ne e'] at g2
        rw [List.getElem?_set_self (by rw [← I.len]; exact hl)] at g1
        exact absurd (by rw [g2]; exact g1.symm) (hs xs (by cases e2; rfl) k ys (Ne.symm e') h2)
    · rcases get_set h2 with ⟨e', e2', hl'⟩ | ⟨e', h2⟩
      · subst e'
        rw [List.getElem?_set_ne e] at g1
        rw [List.getElem?_set_self (by rw [← I.len]; exact hl')] at g2
        exact absurd (by rw [g1]; exact g2.symm) (hs ys (by cases e2'; rfl) j xs (Ne.symm e) h1)
      · rw [List.getElem?_set_ne e] at g1
        rw [List.getElem?_set_ne e'] at g2
        exact I.sep j k xs ys p h1 h2 g1 g2⟩
theorem SI.putP (I : SI K Y en σ B H) (s : SV K Y B H x v) (n : noL x) : SI K Y (en.set i (some x)) (σ.set i (some v)) B H :=
  I.put s fun xs e => by subst e; exact n.elim
/-- an object that is neither frozen, nor of the entry, nor an own list in a slot is changed -/
theorem SI.chg {p : Addr} {o : HO} (I : SI K Y en σ B H) (hb : B p = none) (h0 : Y.H0 p = none) (hs : ∀ (j : Nat) (ys : List PyData), en[j]? = some (some (.l ys)) → σ[j]? ≠ some (some (.ref p))) : SI K Y en σ B (upd H p o) := by
  have ht : ¬ Y.Z.T p := fun t => I.w0.th p t h0
  refine ⟨I.wf.chg hb ht, I.w0, ⟨I.ex.b, fun a u h n => ?_, I.ex.f⟩, I.len, fun j y h => ?_, I.sep⟩
  · rw [upd_ne (by rintro rfl; rw [h0] at h; cases h)]; exact I.ex.h a u h n
  · obtain ⟨u, h1, h2⟩ := I.slot j y h
    refine ⟨u, h1, ?_⟩
    cases y with
    | d y => exact h2
    | o y => exact h2
    | p y => exact h2
    | l ys =>
      obtain ⟨q, vs, rfl, hq, r⟩ := h2
      refine ⟨q, vs, rfl, ?_, r⟩
      rw [upd_ne (by rintro rfl; exact hs j ys h h1)]; exact hq
/-- an own list in slot i is changed -/
theorem SI.chgL {p : Addr} {xs : List PyData} {vs : List V} (I : SI K Y en σ B H) (he : i < en.length) (hσ : σ[i]? = some (some (.ref p))) {ys : List PyData} (hy : en[i]? = some (some (.l ys))) (hb : B p = none) (h0 : Y.H0 p = none) (hd : DaAll K B vs xs) :
    SI K Y (en.set i (some (.l xs))) σ B (upd H p (.lst vs)) := by
  have ht : ¬ Y.Z.T p := fun t => I.w0.th p t h0
  have hs : ∀ (j : Nat) (zs : List PyData), j ≠ i → en[j]? = some (some (.l zs)) → σ[j]? ≠ some (some (.ref p)) := fun j zs hj h1 h2 => hj (I.sep j i zs ys p h1 hy h2 hσ)
  refine ⟨I.wf.chg hb ht, I.w0, ⟨I.ex.b, fun a u h n => ?_, I.ex.f⟩, by simpa using I.len, fun j y h => ?_, fun j k xs' ys' q h1 h2 g1 g2 => ?_⟩
  · rw [upd_ne (by rintro rfl; rw [h0] at h; cases h)]; exact I.ex.h a u h n
  · rcases get_set h with ⟨e, e2, _⟩ | ⟨e, h⟩
    · cases e2; subst e
      exact ⟨_, hσ, p, vs, rfl, upd_same, hb, h0, hd⟩
    · obtain ⟨u, h1, h2⟩ := I.slot j y h
      refine ⟨u, h1, ?_⟩
      cases y with
      | d y => exact h2
      | o y => exact h2
      | p P => exact h2
      | l zs =>
        obtain ⟨q, us, rfl, hq, r⟩ := h2
        refine ⟨q, us, rfl, ?_, r⟩
        rw [upd_ne (by rintro rfl; exact hs j zs (Ne.symm e) h h1)]; exact hq
  · have l1 : ∃ zs, en[j]? = some (some (.l zs)) := by
      rcases get_set h1 with ⟨e, _, _⟩ | ⟨_, h1⟩
      · subst e; exact ⟨_, hy⟩
      · exact ⟨_, h1⟩
    have l2 : ∃ zs, en[k]? = some (some (.l zs)) := by
      rcases get_set h2 with ⟨e, _, _⟩ | ⟨_, h2⟩
      · subst e; exact ⟨_, hy⟩
      · exact ⟨_, h2⟩
    obtain ⟨z1, l1⟩ := l1
    obtain ⟨z2, l2⟩ := l2
    exact I.sep j k z1 z2 q l1 l2 g1 g2
/-- an own list is frozen -/
theorem SI.frz {xs : List PyData} (I : SI K Y en σ B H) (hy : en[i]? = some (some (.l xs))) : ∃ B', Sub B B' ∧ SI K Y (en.set i (some (.d (.list xs)))) σ B' H := by
  obtain ⟨v, hσ, p, vs, rfl, hp, hb, h0, hd⟩ := I.slot i _ hy
  have ht : ¬ Y.Z.T p := fun t => I.w0.th p t h0
  have sb : Sub B (upd B p (.lst vs)) := Sub.new hb
  refine ⟨_, sb, I.wf.frz hp hb ht, I.w0, ⟨I.ex.b.trans sb, I.ex.h, fun a h n => ?_⟩, by simpa using I.len, fun j y h => ?_, fun j k xs' ys' q h1 h2 g1 g2 => ?_⟩
  · rw [upd_ne (by rintro rfl; exact n h0)]; exact I.ex.f a h n
  · rcases get_set h with ⟨e, e2, _⟩ | ⟨e, h⟩
    · cases e2; subst e
      exact ⟨_, hσ, .lst upd_same (hd.mono sb)⟩
    · obtain ⟨u, h1, h2⟩ := I.slot j y h
      refine ⟨u, h1, ?_⟩
      cases y with
      | d y => exact Da.mono sb h2
      | o y => exact h2
      | p P => exact P.2 _ _ _ sb h2
      | l zs =>
        obtain ⟨q, us, rfl, hq, r, r2, r3⟩ := h2
        have hne : q ≠ p := by rintro rfl; exact e (I.sep j i zs xs q h hy h1 hσ).symm
        exact ⟨q, us, rfl, hq, by rw [upd_ne hne]; exact r, r2, r3.mono sb⟩
  · rcases get_set h1 with ⟨_, e, _⟩ | ⟨_, h1⟩
    · cases e
    · rcases get_set h2 with ⟨_, e, _⟩ | ⟨_, h2⟩
      · cases e
      · exact I.sep j k xs' ys' q h1 h2 g1 g2
def wipeE (en : En) : List Nat → En
  | [] => en
  | v :: vs => (wipeE en vs).set v none
theorem wipeE_len (en : En) : ∀ vs, (wipeE en vs).length = en.length
  | [] => rfl
  | v :: vs => by simp [wipeE, wipeE_len en vs]
theorem wipeE_some {en : En} {j : Nat} {y : DV} : ∀ {vs : List Nat}, (wipeE en vs)[j]? = some (some y) → en[j]? = some (some y) ∧ j ∉ vs
  | [], h => ⟨h, by simp⟩
  | v :: vs, h => by
    rcases get_set h with ⟨_, e, _⟩ | ⟨e, h⟩
    · cases e
    · obtain ⟨h1, h2⟩ := wipeE_some h
      exact ⟨h1, by simp only [List.mem_cons, not_or]; exact ⟨fun z => e z.symm, h2⟩⟩
theorem wipe_keep {σ : L2.St} {j : Nat} : ∀ {vs : List Nat}, j ∉ vs → (wipe σ vs)[j]? = σ[j]?
  | [], _ => rfl
  | v :: vs, h => by
    simp only [List.mem_cons, not_or] at h
    unfold wipe
    rw [List.getElem?_set_ne (Ne.symm h.1)]
    exact wipe_keep h.2
theorem SI.wipe (I : SI K Y en σ B H) (vs : List Nat) : SI K Y (wipeE en vs) (L2.wipe σ vs) B H :=
  ⟨I.wf, I.w0, I.ex, by rw [wipeE_len, wipe_length]; exact I.len, fun j y h => by
    obtain ⟨h1, h2⟩ := wipeE_some h
    obtain ⟨u, g1, g2⟩ := I.slot j y h1
    exact ⟨u, by rw [wipe_keep h2]; exact g1, g2⟩, fun j k xs ys p h1 h2 g1 g2 => by
    obtain ⟨h1, n1⟩ := wipeE_some h1
    obtain ⟨h2, n2⟩ := wipeE_some h2
    rw [wipe_keep n1] at g1
    rw [wipe_keep n2] at g2
    exact I.sep j k xs ys p h1 h2 g1 g2⟩
end

/-! ### statements -/
structure DEnds where
  nx : En → Prop
  rt : DV → Prop
  bk : En → Prop := fun _ => False
  ct : En → Prop := fun _ => False
structure DEnds.Le (D D' : DEnds) : Prop where
  nx : ∀ e, D.nx e → D'.nx e
  rt : ∀ e, D.rt e → D'.rt e
  bk : ∀ e, D.bk e → D'.bk e
  ct : ∀ e, D.ct e → D'.ct e
theorem DEnds.Le.refl (D : DEnds) : DEnds.Le D D := ⟨fun _ h => h, fun _ h => h, fun _ h => h, fun _ h => h⟩
abbrev SW := DEnds → En → Prop
def ends (K : PySem.W.Frag) (Y : Cy) (B : Hp) (D : Ends) : DEnds where
  nx := fun en => ∀ σ B' H', Sub B B' → SI K Y en σ B' H' → D.nx σ H'
  rt := fun x => ∀ v B' H', Ext Y.Z Y.B0 Y.H0 B' H' → Wf Y.Z B' H' → SVp K B' x v → D.rt v H'
  bk := fun en => ∀ σ B' H', Sub B B' → SI K Y en σ B' H' → D.bk σ H'
  ct := fun en => ∀ σ B' H', Sub B B' → SI K Y en σ B' H' → D.ct σ H'
theorem ends_le {K : PySem.W.Frag} {Y : Cy} {B B' : Hp} {D : Ends} (s : Sub B B') : DEnds.Le (ends K Y B D) (ends K Y B' D) :=
  ⟨fun _ h σ B2 H2 s2 => h σ B2 H2 (s.trans s2), fun _ h => h, fun _ h σ B2 H2 s2 => h σ B2 H2 (s.trans s2), fun _ h σ B2 H2 s2 => h σ B2 H2 (s.trans s2)⟩
def sD (K : PySem.W.Frag) (Y : Cy) (w : SW) : TS := fun D σ H => ∃ en B, SI K Y en σ B H ∧ w (ends K Y B D) en
structure DS (X : Cx) (Y : Cy) (st : Stmt) (w : SW) : Prop where
  ps : PS X st (sD X.K Y w)
  mono : ∀ (en : En) (D D' : DEnds), DEnds.Le D D' → w D en → w D' en
structure DSs (X : Cx) (Y : Cy) (sts : List Stmt) (w : SW) : Prop where
  ps : PSs X sts (sD X.K Y w)
  mono : ∀ (en : En) (D D' : DEnds), DEnds.Le D D' → w D en → w D' en
def wNil : SW := fun D en => D.nx en
def wSeq (w1 w2 : SW) : SW := fun D en => w1 { D with nx := w2 D } en
section
variable {X : Cx} {Y : Cy} {st : Stmt} {rest : List Stmt} {w1 w2 : SW} {a b c e : Expr} {wa wb wc : EW} {pos p : Pos}
theorem ds_nil : DSs X Y [] wNil := ⟨pssW pss_nil fun D σ H ⟨en, B, I, h⟩ => h σ B H (Sub.refl _) I, fun _ _ _ l h => l.nx _ h⟩
theorem le_seq {w1 w2 : SW} (m1 : ∀ (en : En) (D D' : DEnds), DEnds.Le D D' → w1 D en → w1 D' en) (m2 : ∀ (en : En) (D D' : DEnds), DEnds.Le D D' → w2 D en → w2 D' en) : ∀ (en : En) (D D' : DEnds), DEnds.Le D D' → wSeq w1 w2 D en → wSeq w1 w2 D' en :=
  fun en D D' l h => m1 en { D with nx := w2 D } { D' with nx := w2 D' } ⟨fun e h => m2 e D D' l h, l.rt, l.bk, l.ct⟩ h
theorem ds_cons (h1 : DS X Y st w1) (h2 : DSs X Y rest w2) : DSs X Y (st :: rest) (wSeq w1 w2) := by
  refine ⟨pssW (pss_cons h1.ps h2.ps) fun D σ H ⟨en, B, I, h⟩ => ⟨en, B, I, h1.mono en { ends X.K Y B D with nx := w2 (ends X.K Y B D) } (ends X.K Y B { D with nx := sD X.K Y w2 D }) ⟨fun e h σ' B' H' s I' => ?_, fun _ h => h, fun _ h => h, fun _ h => h⟩ h⟩, le_seq h1.mono h2.mono⟩
  exact ⟨e, B', I', h2.mono e _ _ (ends_le s) h⟩
theorem ds_one (h1 : DS X Y st w1) : DSs X Y [st] w1 := ⟨pssW (pss_one h1.ps) fun _ _ _ h => h, h1.mono⟩
/-- a statement that is not reached -/
def wNever : SW := fun _ _ => False
theorem ds_never : DS X Y st wNever := ⟨psW ps_never fun _ _ _ ⟨_, _, _, h⟩ => h, fun _ _ _ _ h => h.elim⟩
theorem dss_never : DSs X Y rest wNever := ⟨pssW pss_never fun _ _ _ ⟨_, _, _, h⟩ => h, fun _ _ _ _ h => h.elim⟩
/-- an own list in slot i grows no more -/
def wFrz (i : Nat) (w : SW) : SW := fun D en => match slotOf en i with
  | some (.l xs) => w D (en.set i (some (.d (.list xs))))
  | _ => False
theorem frz_mono {i : Nat} {w : SW} (m : ∀ (en : En) (D D' : DEnds), DEnds.Le D D' → w D en → w D' en) : ∀ (en : En) (D D' : DEnds), DEnds.Le D D' → wFrz i w D en → wFrz i w D' en := fun en D D' l h => by
  unfold wFrz at h ⊢
  split at h
  · exact m _ _ _ l h
  · exact h.elim
theorem dss_frz (i : Nat) (h : DSs X Y rest w1) : DSs X Y rest (wFrz i w1) := by
  refine ⟨pssW h.ps fun D σ H ⟨en, B, I, q⟩ => ?_, frz_mono h.mono⟩
  unfold wFrz at q
  split at q
  · rename_i xs hx
    obtain ⟨B', s, I'⟩ := I.frz (slotOf_eq _ _ _ hx)
    exact ⟨_, B', I', h.mono _ _ _ (ends_le s) q⟩
  · exact q.elim
theorem ds_frz (i : Nat) (h : DS X Y st w1) : DS X Y st (wFrz i w1) := by
  refine ⟨psW h.ps fun D σ H ⟨en, B, I, q⟩ => ?_, frz_mono h.mono⟩
  unfold wFrz at q
  split at q
  · rename_i xs hx
    obtain ⟨B', s, I'⟩ := I.frz (slotOf_eq _ _ _ hx)
    exact ⟨_, B', I', h.mono _ _ _ (ends_le s) q⟩
  · exact q.elim
def wSet (i : Nat) (wa : EW) : SW := fun D en => wa en fun x => noL x ∧ D.nx (en.set i (some x))
theorem set_mono {i : Nat} (m : ∀ (en : En) (Q Q' : DV → Prop), (∀ x, Q x → Q' x) → wa en Q → wa en Q') : ∀ (en : En) (D D' : DEnds), DEnds.Le D D' → wSet i wa D en → wSet i wa D' en := fun en D D' l h =>
  m en _ _ (fun x h => ⟨h.1, l.nx _ h.2⟩) h
theorem ds_set (i : Nat) {x : Str} {pos' : Pos} (hN : X.N.Nodup) (ha : DE X Y e wa) (hi : X.N[i]? = some x := by rfl) (hx : Loc X.env.scope x := by first | exact Or.inl rfl | exact Or.inr rfl) (hs : swapsWith e (some (.Name x pos')) pos.line X.env = pure false := by rfl)
    (hf : X.fn x = true ∨ X.env.scope.names.lookup x = some .local := by first | exact .inl rfl | exact .inr rfl) : DS X Y (.Assign [.Name x pos'] e pos) (wSet i wa) :=
  ⟨psW (ps_set (i := i) hN hi hx ha.pe hs hf) fun D σ H ⟨en, B, I, h⟩ => ⟨en, B, I, ha.mono en _ _ (fun x ⟨n, h⟩ v B' H' e w s => h _ B' H' e.b ((I.ext e w).putP s n)) h⟩, set_mono ha.mono⟩
/-- x = [..]: a list of the def's own that grows -/
def wOwn (i : Nat) (ws : List EW) : SW := fun D en => wArgs ws en fun xs => allD xs fun ds => D.nx (en.set i (some (.l ds)))
theorem fresh0 {K : PySem.W.Frag} {Y : Cy} {en : En} {σ : L2.St} {B H : Hp} {p : Addr} (I : SI K Y en σ B H) (hp : H p = none) : Y.H0 p = none := by
  cases q : Y.H0 p with
  | none => rfl
  | some o =>
    by_cases t : Y.Z.T p
    · exact absurd hp (I.wf.th p t)
    · rw [I.ex.h p o q t] at hp; cases hp
theorem SI.newL {K : PySem.W.Frag} {Y : Cy} {en : En} {σ : L2.St} {B H : Hp} {p : Addr} {i : Nat} {vs : List V} {ds : List PyData} (I : SI K Y en σ B H) (hp : H p = none) (hd : DaAll K B vs ds) : SI K Y (en.set i (some (.l ds))) (σ.set i (some (.ref p))) B (upd H p (.lst vs)) := by
  have hb : B p = none := I.wf.bh.free hp
  have h0 := fresh0 I hp
  have I1 : SI K Y en σ B (upd H p (.lst vs)) := I.chg hb h0 fun j ys h1 h2 => by
    obtain ⟨u, g1, q, us, rfl, hq, _⟩ := I.slot j _ h1
    rw [g1] at h2; cases h2
    rw [hp] at hq; cases hq
  refine I1.put ⟨p, vs, rfl, upd_same, hb, h0, hd⟩ fun xs e j ys hj h1 h2 => ?_
  obtain ⟨u, g1, q, us, rfl, hq, _⟩ := I.slot j _ h1
  rw [g1] at h2; cases h2
  rw [hp] at hq; cases hq
theorem ds_own (i : Nat) {x : Str} {pos' pe : Pos} {es : List Expr} {ws : List EW} (hN : X.N.Nodup) (ha : DA X Y es ws) (hi : X.N[i]? = some x := by rfl) (hx : Loc X.env.scope x := by first | exact Or.inl rfl | exact Or.inr rfl) (hl : es.length ≤ 1000 := by decide) (hs : swapsWith (.List es pe) (some (.Name x pos')) pos.line X.env = pure false := by rfl)
    (hf : X.fn x = true ∨ X.env.scope.names.lookup x = some .local := by first | exact .inl rfl | exact .inr rfl) : DS X Y (.Assign [.Name x pos'] (.List es pe) pos) (wOwn i ws) := by
  refine ⟨psW (ps_set (i := i) hN hi hx (pe_lst ha.pa) hs hf) fun D σ H ⟨en, B, I, h⟩ => ⟨en, B, I, ha.mono en _ _ (fun xs ⟨el, q⟩ vs B' H' e w s => ?_) (ha.len en _ h)⟩, fun en D D' l h => ha.mono en _ _ (fun _ q => allD_mono q fun _ q => l.nx _ q) h⟩
  obtain ⟨ds, hd, q⟩ := allD_run s q
  exact ⟨by rw [← s.length, el]; exact Nat.le_trans hl (by decide), fun p hn => q _ B' _ e.b ((I.ext e w).newL hn hd)⟩
/-- x.append(e) -/
def wApp (i : Nat) (wa : EW) : SW := fun D en => match slotOf en i with
  | some (.l xs) => wa en fun y => onD y fun d => xs.length < sizeLine ∧ D.nx (en.set i (some (.l (xs ++ [d]))))
  | _ => False
theorem app_at {K : PySem.W.Frag} {Y : Cy} {en : En} {σ : L2.St} {B H : Hp} {i : Nat} {xs : List PyData} (I : SI K Y en σ B H) (hy : en[i]? = some (some (.l xs))) :
    ∃ p, σ[i]? = some (some (.ref p)) ∧ ∃ vs, H p = some (.lst vs) ∧ B p = none ∧ Y.H0 p = none ∧ DaAll K B vs xs := by
  obtain ⟨v, hσ, p, vs, rfl, r⟩ := I.slot i _ hy
  exact ⟨p, hσ, vs, r⟩
theorem ds_app (i : Nat) {x : Str} {p1 p2 p3 pos : Pos} (ha : DE X Y e wa) (hi : X.N[i]? = some x := by rfl) (hv : Vis X.env.scope x := by first | exact Or.inl rfl | exact Or.inr (Or.inl rfl) | exact Or.inr (Or.inr rfl)) (hd1 : (x == ("__debug__" : Str)) = false := by decide) (hd2 : (x == ("__classdict__" : Str)) = false := by decide)
    (hs : starEach [e] X.env = (false, eval e X.env) :: starEach [] X.env := by rfl) (hpl : (backTo p3 (starEach ([] : List Expr) X.env)).any (·.1) = false := by rfl)
    (hbase : attributeBase (.Name x p1) "append" X.env (eval (.Name x p1) X.env) = eval (.Name x p1) X.env := by rfl)
    (hfew : ((backTo p3 (starEach (e :: []) X.env)).all (fun x => !x.1) && (backToKw p3 (keywordEach [] X.env)).all (fun x => x.1.isSome)
      && decide ((e :: ([] : List Expr)).length + ([] : List Keyword).length + (if ([] : List Keyword).isEmpty then 0 else 1) < 30)) = true := by rfl)
    (hline : (p2.endLine == p3.line) = true := by rfl)
    (hsw : swapsWith (.Call (.Attribute (.Name x p1) "append" p2) [e] [] p3) none pos.line X.env = pure false := by rfl) : DS X Y (.Expr (.Call (.Attribute (.Name x p1) "append" p2) [e] [] p3) pos) (wApp i wa) := by
  refine ⟨psW (ps_expr (pe_bm PySem.F.plainAttrs_list PySem.F.slot_list_append PySem.F.type_list_append mt_append (pv i hi hv hd1 hd2) (pa_cons ha.pe pa_nil hs) hbase hfew hline hs hpl) hsw) fun D σ H ⟨en, B, I, h⟩ => ?_, fun en D D' l h => ?_⟩
  · unfold wApp at h
    split at h
    · rename_i xs hx
      have hy := slotOf_eq _ _ _ hx
      obtain ⟨p, hσ, vs, hp, hb, h0, hd⟩ := app_at I hy
      refine ⟨_, hσ, .inl ⟨rfl, vs, .of hp⟩, en, B, I, ha.mono en _ _ (fun y h v B' H' e w s => ?_) h⟩
      cases y <;> try exact h.elim
      have I' := I.ext e w
      obtain ⟨p', hσ', vs', hp', hb', h0', hd'⟩ := app_at I' hy
      rw [hσ] at hσ'; cases hσ'
      refine ⟨p, vs', v, rfl, rfl, hp', by rw [hd'.length]; exact h.1, ?_⟩
      exact h.2 _ B' _ e.b (I'.chgL (List.getElem?_eq_some_iff.mp hy).1 hσ hy hb' h0' (hd'.append (.cons s .nil)))
    · exact h.elim
  · unfold wApp at h ⊢
    split at h
    · exact ha.mono en _ _ (fun y h => onD_mono h fun d h => ⟨h.1, l.nx _ h.2⟩) h
    · exact h.elim
def unL : DV → DV
  | .l xs => .d (.list xs)
  | x => x
def wRet (wa : EW) : SW := fun D en => wa en fun x => D.rt (unL x)
theorem ds_ret (ha : DE X Y e wa) : DS X Y (.Return (some e) pos) (wRet wa) := by
  refine ⟨psW (ps_ret ha.pe) fun D σ H ⟨en, B, I, h⟩ => ⟨en, B, I, ha.mono en _ _ (fun x h v B' H' e w s => ?_) h⟩, fun en D D' l h => ha.mono en _ _ (fun _ h => l.rt _ h) h⟩
  have ex := I.ex.trans I.w0 I.wf e
  cases x with
  | d x => exact h v B' H' ex w s
  | o x => exact h v B' H' ex w s
  | p x => exact h v B' H' ex w s
  | l xs =>
    obtain ⟨p, vs, rfl, hp, hb, h0, hd⟩ := s
    have ht : ¬ Y.Z.T p := fun t => I.w0.th p t h0
    refine h (.ref p) (upd B' p (.lst vs)) H' ⟨ex.b.trans (Sub.new hb), ex.h, fun a g n => ?_⟩ (w.frz hp hb ht) (.lst upd_same (hd.mono (Sub.new hb)))
    rw [upd_ne (by rintro rfl; exact n h0)]
    exact ex.f a g n
def wRetN : SW := fun D _ => D.rt (.d .none)
theorem ds_retN : DS X Y (.Return none pos) wRetN := ⟨psW ps_retN fun D σ H ⟨en, B, I, h⟩ => h _ B H I.ex I.wf .non, fun _ _ _ l h => l.rt _ h⟩
def wDrop (wa : EW) : SW := fun D en => wa en fun _ => D.nx en
theorem ds_expr (ha : DE X Y e wa) (hs : swapsWith e none pos.line X.env = pure false := by rfl) : DS X Y (.Expr e pos) (wDrop wa) :=
  ⟨psW (ps_expr ha.pe hs) fun D σ H ⟨en, B, I, h⟩ => ⟨en, B, I, ha.mono en _ _ (fun x h v B' H' e w s => h σ B' H' e.b (I.ext e w)) h⟩, fun en D D' l h => ha.mono en _ _ (fun _ h => l.nx _ h) h⟩
def wIf (wt : TW) (w1 w2 : SW) : SW := fun D en => wt en fun b => match b with
  | true => w1 D en
  | false => w2 D en
theorem ds_if {wt : TW} {s1 s2 : List Stmt} (hc : DT X Y c wt) (h1 : DSs X Y s1 w1) (h2 : DSs X Y s2 w2) : DS X Y (.If c s1 s2 pos) (wIf wt w1 w2) := by
  refine ⟨psW (ps_if hc.pt h1.ps h2.ps) fun D σ H ⟨en, B, I, h⟩ => ⟨en, B, I, hc.mono en _ _ (fun b h B' H' e w => ?_) h⟩, fun en D D' l h => hc.mono en _ _ (fun b h => ?_) h⟩
  · cases b with
    | true => exact iteT ⟨en, B', I.ext e w, h1.mono _ _ _ (ends_le e.b) h⟩
    | false => exact iteF ⟨en, B', I.ext e w, h2.mono _ _ _ (ends_le e.b) h⟩
  · cases b with
    | true => exact h1.mono _ _ _ l h
    | false => exact h2.mono _ _ _ l h
def wBrk : SW := fun D en => D.bk en
def wCont : SW := fun D en => D.ct en
theorem ds_break : DS X Y (.Break pos) wBrk := ⟨psW ps_break fun D σ H ⟨en, B, I, h⟩ => h σ B H (Sub.refl _) I, fun _ _ _ l h => l.bk _ h⟩
theorem ds_cont : DS X Y (.Continue pos) wCont := ⟨psW ps_continue fun D σ H ⟨en, B, I, h⟩ => h σ B H (Sub.refl _) I, fun _ _ _ l h => l.ct _ h⟩
end
end DL

set_option maxRecDepth 100000
set_option maxHeartbeats 2000000
namespace DL
open PySem L2

/-! ### targets -/
inductive Tg where
  | nm (i : Nat)
  | tp (is : List Nat)
def bindE : List Nat → List PyData → En → Option En
  | [], [], en => some en
  | i :: is, d :: ds, en => bindE is ds (en.set i (some (.d d)))
  | _, _, _ => none
def Tg.bind : Tg → PyData → En → Option En
  | .nm i, d, en => some (en.set i (some (.d d)))
  | .tp is, .tuple ds, en => bindE is ds en
  | .tp _, _, _ => none
def Tg.slots : Tg → List Nat
  | .nm i => [i]
  | .tp is => is
def gNames : List Nat → TGs
  | [] => gNil
  | i :: is => gCons (gName i) (gNames is)
def tgT (K : PySem.W.Frag) : Tg → TG
  | .nm i => gName i
  | .tp is => gTup K is.length (gNames is)
structure DG (X : Cx) (tg : Expr) (g : Tg) : Prop where
  pg : PG X tg (tgT X.K g)
theorem wipe_set {σ : L2.St} {i : Nat} {v : Option V} : ∀ {vs : List Nat}, i ∈ vs → wipe (σ.set i v) vs = wipe σ vs
  | [], h => by cases h
  | u :: vs, h => by
    unfold wipe
    by_cases hv : i ∈ vs
    · rw [wipe_set hv]
    · have e : i = u := by
        rcases List.mem_cons.mp h with e | e
        · exact e
        · exact absurd e hv
      subst e
      apply List.ext_getElem?
      intro j
      by_cases e : i = j
      · subst e
        by_cases hl : i < (wipe σ vs).length
        · rw [List.getElem?_set_self hl, List.getElem?_set_self (by rw [wipe_length] at hl ⊢; simpa using hl)]
        · rw [List.getElem?_eq_none (by rw [List.length_set, wipe_length] <;> rw [wipe_length] at hl <;> simpa using hl), List.getElem?_eq_none (by simpa using hl)]
      · rw [List.getElem?_set_ne e, List.getElem?_set_ne e]
        have : ∀ (vs : List Nat), i ∉ vs → ∀ j, i ≠ j → (wipe (σ.set i v) vs)[j]? = (wipe σ vs)[j]? := by
          intro vs
          induction vs with
          | nil => intro _ j e; exact List.getElem?_set_ne e
          | cons u r ih =>
            intro hn j e
            simp only [List.mem_cons, not_or] at hn
            unfold wipe
            by_cases eu : u = j
            · subst eu
              by_cases hl : u < (wipe σ r).length
              · rw [List.getElem?_set_self hl, List.getElem?_set_self (by rw [wipe_length] at hl ⊢; simpa using hl)]
              · rw [List.getElem?_eq_none (by rw [List.length_set, wipe_length] <;> rw [wipe_length] at hl <;> simpa using hl), List.getElem?_eq_none (by simpa using hl)]
            · rw [List.getElem?_set_ne eu, List.getElem?_set_ne eu]
              exact ih hn.2 j e
        exact this vs hv j e
section
variable {X : Cx} {Y : Cy} {pos : Pos}
theorem dg_nm (i : Nat) {x : Str} (hN : X.N.Nodup) (hi : X.N[i]? = some x := by rfl) (hx : Loc X.env.scope x := by first | exact Or.inl rfl | exact Or.inr rfl) (hf : X.fn x = true ∨ X.env.scope.names.lookup x = some .local := by first | exact .inl rfl | exact .inr rfl) :
    DG X (.Name x pos) (.nm i) := ⟨pg_name hN hi hx hf⟩
/-- names within a tuple -/
structure DGs (X : Cx) (tgs : List Expr) (is : List Nat) : Prop where
  pg : PGs X tgs (gNames is)
  len : tgs.length = is.length
theorem dgs_nil : DGs X [] [] := ⟨pgs_nil, rfl⟩
theorem dgs_cons (i : Nat) {x : Str} {tgs : List Expr} {is : List Nat} (hN : X.N.Nodup) (h2 : DGs X tgs is) (hi : X.N[i]? = some x := by rfl) (hx : Loc X.env.scope x := by first | exact Or.inl rfl | exact Or.inr rfl) (hf : X.fn x = true ∨ X.env.scope.names.lookup x = some .local := by first | exact .inl rfl | exact .inr rfl) :
    DGs X (.Name x pos :: tgs) (i :: is) := ⟨pgs_cons (pg_name hN hi hx hf) h2.pg, by simp [h2.len]⟩
theorem bindE_len : ∀ {is : List Nat} {ds : List PyData} {en en' : En}, bindE is ds en = some en' → ds.length = is.length
  | [], [], _, _, _ => rfl
  | i :: is, d :: ds, en, en', h => by simp [bindE_len (is := is) (ds := ds) (en := en.set i (some (.d d))) h]
  | [], _ :: _, _, _, h => by cases h
  | _ :: _, [], _, _, h => by cases h
theorem dg_tp {tgs : List Expr} {is : List Nat} {kk : Nat} (h : DGs X tgs is) (hc : X.calm = true := by rfl) (hst : List.findIdx? (fun x => x.fst) (assignEach tgs X.env) = none := by rfl) (hle : (assignEach tgs X.env).length = is.length := by rfl) : DG X (.Tuple tgs kk pos) (.tp is) :=
  ⟨pg_tup hc h.pg hle hst⟩
variable {K : PySem.W.Frag}
theorem names_run : ∀ (is : List Nat) (vs : List V) (ds : List PyData) (en en' : En) (σ : L2.St) (B H : Hp) (Q : L2.St → Hp → Prop), SI K Y en σ B H → DaAll K B vs ds → bindE is ds en = some en' →
    (∀ σ', SI K Y en' σ' B H → (∀ vs : List Nat, (∀ i ∈ is, i ∈ vs) → wipe σ' vs = wipe σ vs) → Q σ' H) → gNames is vs σ H Q
  | [], vs, ds, en, en', σ, B, H, Q, I, hd, e, h => by
    cases ds with
    | nil => cases hd; cases e; exact ⟨rfl, h _ I fun _ _ => rfl⟩
    | cons d r => cases e
  | i :: is, vs, ds, en, en', σ, B, H, Q, I, hd, e, h => by
    cases ds with
    | nil => cases e
    | cons d r =>
      cases hd with
      | cons h1 hr =>
        refine ⟨_, _, rfl, names_run is _ _ _ en' _ B H _ (I.putP (x := .d d) h1 trivial) hr e fun σ' I' hw => h σ' I' fun us hu => ?_⟩
        rw [hw us fun j hj => hu j (List.mem_cons_of_mem _ hj)]
        exact wipe_set (hu i (by simp))
theorem tg_run (g : Tg) (v : V) (d : PyData) (en en' : En) (σ : L2.St) (B H : Hp) (Q : L2.St → Hp → Prop) (I : SI K Y en σ B H) (hd : Da K B v d) (e : g.bind d en = some en')
    (h : ∀ σ', SI K Y en' σ' B H → (∀ vs : List Nat, (∀ i ∈ g.slots, i ∈ vs) → wipe σ' vs = wipe σ vs) → Q σ' H) : tgT K g v σ H Q := by
  cases g with
  | nm i =>
    cases e
    exact h _ (I.putP (x := .d d) hd trivial) fun vs hv => wipe_set (hv i (by simp [Tg.slots]))
  | tp is =>
    cases d <;> try (cases e; done)
    cases hd with
    | tup hp ha => exact ⟨_, _, rfl, SqT.of (I.wf.bh _ _ hp), by rw [ha.length]; exact bindE_len e, names_run is _ _ _ en' _ B H _ I ha e h⟩
end

/-! ### what is walked -/
structure WalkD (K : PySem.W.Frag) (Z : Res) (B : Hp) (J : It) (xs : List PyData) : Prop where
  goes : ∀ i B1 H1, Sub B B1 → Wf Z B1 H1 → i < xs.length → J.go i H1
  stops : ∀ B1 H1, Sub B B1 → Wf Z B1 H1 → J.stop xs.length H1
  yields : ∀ i B1 H1 v H2, Sub B B1 → Wf Z B1 H1 → i < xs.length → J.yld i H1 v H2 → ∃ B2 d, Ext Z B1 H1 B2 H2 ∧ Wf Z B2 H2 ∧ xs[i]? = some d ∧ Da K B2 v d
abbrev IW := En → (List PyData → Prop) → Prop
def iD (K : PySem.W.Frag) (Y : Cy) (w : IW) : TI := fun σ H R => ∃ en B, SI K Y en σ B H ∧ w en fun xs => ∀ J B' H', Ext Y.Z B H B' H' → Wf Y.Z B' H' → WalkD K Y.Z B' J xs → R J H'
structure DI (X : Cx) (Y : Cy) (tg iter : Expr) (w : IW) : Prop where
  pi : PI X tg iter (iD X.K Y w)
  mono : ∀ (en : En) (Q Q' : List PyData → Prop), (∀ x, Q x → Q' x) → w en Q → w en Q'
theorem piW {X : Cx} {tg e : Expr} {t t' : TI} (h : PI X tg e t) (i : ∀ σ H Q, t' σ H Q → t σ H Q) : PI X tg e t' := ⟨fun pins s σ H Q I q => h.run pins s σ H Q I (i _ _ _ q)⟩
theorem piOr {X : Cx} {tg e : Expr} {t t' : TI} (h : PI X tg e t) (h' : PI X tg e t') : PI X tg e (fun σ H R => t σ H R ∨ t' σ H R) := ⟨fun pins s σ H Q I q => by
  rcases q with q | q
  · exact h.run pins s σ H Q I q
  · exact h'.run pins s σ H Q I q⟩
def seqF : PyData → (List PyData → Prop) → Prop
  | .list xs, Q => Q xs
  | .tuple xs, Q => Q xs
  | _, _ => False
theorem seqF_mono {x : PyData} {k k' : List PyData → Prop} (h : seqF x k) (i : ∀ d, k d → k' d) : seqF x k' := by
  cases x <;> first | exact h.elim | exact i _ h
def wSeqI (wa : EW) : IW := fun en Q => wa en fun x => onD x fun d => seqF d Q
section
variable {X : Cx} {Y : Cy} {tg e : Expr} {wa : EW} {pos p : Pos} {K : PySem.W.Frag} {B H : Hp}
theorem walkL {Z : Res} {a : Addr} {vs : List V} {xs : List PyData} (h : B a = some (.lst vs)) (hd : DaAll K B vs xs) : WalkD K Z B (Itl K a) xs :=
  ⟨fun i B1 H1 s w hi => ⟨vs, vs[i]'(by rw [hd.length]; exact hi), .of (w.bh _ _ (s _ _ h)), by simp [hd.length, hi]⟩,
   fun B1 H1 s w => ⟨vs, .of (w.bh _ _ (s _ _ h)), by rw [hd.length]; exact Nat.le_refl _⟩,
   fun i B1 H1 v H2 s w hi y => by
    obtain ⟨e, y⟩ := y
    subst e
    obtain ⟨d, q1, q2⟩ := hd.getV (y vs (.of (w.bh _ _ (s _ _ h))))
    exact ⟨B1, d, Ext.refl _ _ _, w, q1, q2.mono s⟩⟩
theorem walkT {Z : Res} {a : Addr} {vs : List V} {xs : List PyData} (h : SqT K B a vs) (hd : DaAll K B vs xs) : WalkD K Z B (Itt K a) xs :=
  ⟨fun i B1 H1 s w hi => ⟨vs, vs[i]'(by rw [hd.length]; exact hi), w.bh.sqT (s.sqT h), by simp [hd.length, hi]⟩,
   fun B1 H1 s w => ⟨vs, w.bh.sqT (s.sqT h), by rw [hd.length]; exact Nat.le_refl _⟩,
   fun i B1 H1 v H2 s w hi y => by
    obtain ⟨e, y⟩ := y
    subst e
    obtain ⟨d, q1, q2⟩ := hd.getV (y vs (w.bh.sqT (s.sqT h)))
    exact ⟨B1, d, Ext.refl _ _ _, w, q1, q2.mono s⟩⟩
theorem di_seq (ha : DE X Y e wa) : DI X Y tg e (wSeqI wa) := by
  refine ⟨⟨fun pins s σ H R I ⟨en, B, J, h⟩ => ?_⟩, fun en Q Q' i h => ha.mono en _ _ (fun _ h => onD_mono h fun _ h => seqF_mono h i) h⟩
  refine thn (ha.pe.run pins s σ H (fun v H1 => (∃ a, v = .ref a ∧ (∃ xs, SqL X.K H1 a xs) ∧ R (Itl X.K a) H1) ∨ ∃ a, v = .ref a ∧ (∃ xs, SqT X.K H1 a xs) ∧ R (Itt X.K a) H1) I ⟨en, B, J, ha.mono en _ _ (fun x h v B' H' e w s => ?_) h⟩) fun v s1 ⟨x, H1, I1, r1, q1⟩ => ?_
  · cases x <;> try exact h.elim
    cases s <;> try exact h.elim
    · rename_i hp hd
      exact .inl ⟨_, rfl, ⟨_, .of (w.bh _ _ hp)⟩, h _ _ _ e w (walkL hp hd)⟩
    · rename_i hp hd
      exact .inr ⟨_, rfl, ⟨_, SqT.of (w.bh _ _ hp)⟩, h _ _ _ e w (walkT (.of hp) hd)⟩
  · rcases q1 with ⟨a, rfl, ⟨xs, hq⟩, q⟩ | ⟨a, rfl, ⟨xs, hq⟩, q⟩
    · cases r1
      obtain ⟨its, rv, p, hz⟩ := I1.list hq
      refine wpAny_pyIter_list p.isList ?_
      refine ⟨s1.heap.objs.size, [s1.heap.objs.size], _, _, H1, rfl, I1.kept (t' := s1.toks) fun b o e => Heap.get?_push_of_some _ e, turn_list a _, ⟨_, Heap.get?_push_size _ rfl, rfl, rfl⟩, fun b hb => ?_, q⟩
      have e : b = s1.heap.objs.size := by simpa using hb
      subst e
      exact I1.fpOk (Nat.le_refl _) (I1.hok.fresh (Nat.le_refl _))
    · cases r1
      obtain ⟨its, rv, p, hz⟩ := I1.tuple hq
      refine wpAny_pyIter_tuple (show s1.heap.IsTuple a its.toArray from p) ?_
      refine ⟨s1.heap.objs.size, [s1.heap.objs.size], _, _, H1, rfl, I1.kept (t' := s1.toks) fun b o e => Heap.get?_push_of_some _ e, turn_tuple a _, ⟨_, Heap.get?_push_size _ rfl, rfl, rfl⟩, fun b hb => ?_, q⟩
      have e : b = s1.heap.objs.size := by simpa using hb
      subst e
      exact I1.fpOk (Nat.le_refl _) (I1.hok.fresh (Nat.le_refl _))
def rngD (lo : Int) (n : Nat) : List PyData := (List.range n).map fun (i : Nat) => .int (lo + (i : Int))
theorem walkR {Z : Res} {lo : Int} {n : Nat} : WalkD K Z B (Itr lo n) (rngD lo n) :=
  ⟨fun i B1 H1 s w hi => show i < n by simpa [rngD] using hi, fun B1 H1 s w => by simp [rngD, Itr],
   fun i B1 H1 v H2 s w hi y => by
    obtain ⟨e, y⟩ := y
    subst e y
    have hi' : i < n := by simpa [rngD] using hi
    exact ⟨B1, .int (lo + i), Ext.refl _ _ _, w, by simp [rngD, hi'], .int _⟩⟩
def wRng1 (wa : EW) : IW := fun en Q => wa en fun x => onD x fun d => match d with
  | .int j => (-(2 ^ 62) ≤ j ∧ j < 2 ^ 62) ∧ Q (rngD 0 j.toNat)
  | _ => False
theorem di_rng1 {p0 : Pos} (hg : Gl X "range") (hm : X.mg "range" = none) (ha : DE X Y e wa) (hs : starEach [e] X.env = [(false, eval e X.env)] := by rfl) : DI X Y tg (.Call (.Name "range" p0) [e] [] pos) (wRng1 wa) := by
  refine ⟨piW (pi_range1 hg hm (pa_cons ha.pe pa_nil hs) hs) fun σ H R ⟨en, B, I, h⟩ => ⟨en, B, I, ha.mono en _ _ (fun x h v B' H' e w s => ?_) h⟩, fun en Q Q' i h => ha.mono en _ _ (fun _ h => onD_mono h fun d h => ?_) h⟩
  · cases x <;> try exact h.elim
    rename_i d
    cases d <;> try exact h.elim
    cases s
    exact ⟨_, rfl, h.1.1, h.1.2, h.2 _ _ _ e w walkR⟩
  · cases d <;> first | exact h.elim | exact ⟨h.1, i _ h.2⟩
def wRng2 (wa wb : EW) : IW := fun en Q => wa en fun x => onD x fun d => wb en fun y => onD y fun d' => match d, d' with
  | .int i, .int j => ((-(2 ^ 62) ≤ i ∧ i < 2 ^ 62) ∧ -(2 ^ 62) ≤ j ∧ j < 2 ^ 62) ∧ Q (rngD i (j - i).toNat)
  | _, _ => False
theorem di_rng2 {e2 : Expr} {wb : EW} {p0 : Pos} (hg : Gl X "range") (hm : X.mg "range" = none) (ha : DE X Y e wa) (hb : DE X Y e2 wb) (hs : starEach [e, e2] X.env = [(false, eval e X.env), (false, eval e2 X.env)] := by rfl) (hs2 : starEach [e2] X.env = [(false, eval e2 X.env)] := by rfl) : DI X Y tg (.Call (.Name "range" p0) [e, e2] [] pos) (wRng2 wa wb) := by
  refine ⟨piW (pi_range2 hg hm (pa_cons ha.pe (pa_cons hb.pe pa_nil hs2) (by rw [hs, hs2])) hs hs2) fun σ H R ⟨en, B, I, h⟩ => ⟨en, B, I, ha.mono en _ _ (fun x h v B' H' e w s => ?_) h⟩, fun en Q Q' i h => ha.mono en _ _ (fun _ h => onD_mono h fun d h => hb.mono en _ _ (fun _ h => onD_mono h fun d' h => ?_) h) h⟩
  · cases x <;> try exact h.elim
    rename_i d
    refine ⟨en, B', I.ext e w, hb.mono en _ _ (fun y h u B2 H2 e2 w2 s2 => ?_) h⟩
    cases y <;> try exact h.elim
    rename_i d'
    cases d <;> cases d' <;> try exact h.elim
    cases s
    cases s2
    exact ⟨_, _, rfl, ⟨h.1.1.1, h.1.1.2, h.1.2.1, h.1.2.2⟩, h.2 _ _ _ (e.trans I.wf w e2) w2 walkR⟩
  · cases d <;> cases d' <;> first | exact h.elim | exact ⟨h.1, i _ h.2⟩
end

/-! ### what is walked in a comprehension: its own growing lists stay as they are -/
structure WalkE (K : PySem.W.Frag) (Z : Res) (B H : Hp) (J : It) (xs : List PyData) : Prop where
  goes : ∀ i B1 H1, Ext Z B H B1 H1 → Wf Z B1 H1 → i < xs.length → J.go i H1
  stops : ∀ B1 H1, Ext Z B H B1 H1 → Wf Z B1 H1 → J.stop xs.length H1
  yields : ∀ i B1 H1 v H2, Ext Z B H B1 H1 → Wf Z B1 H1 → i < xs.length → J.yld i H1 v H2 → ∃ B2 d, Ext Z B1 H1 B2 H2 ∧ Wf Z B2 H2 ∧ xs[i]? = some d ∧ Da K B2 v d
theorem WalkD.e {K : PySem.W.Frag} {Z : Res} {B H : Hp} {J : It} {xs : List PyData} (w : WalkD K Z B J xs) : WalkE K Z B H J xs :=
  ⟨fun i B1 H1 e => w.goes i B1 H1 e.b, fun B1 H1 e => w.stops B1 H1 e.b, fun i B1 H1 v H2 e => w.yields i B1 H1 v H2 e.b⟩
def iE (K : PySem.W.Frag) (Y : Cy) (w : IW) : TI := fun σ H R => ∃ en B, SI K Y en σ B H ∧ w en fun xs => ∀ J B' H', Ext Y.Z B H B' H' → Wf Y.Z B' H' → WalkE K Y.Z B' H' J xs → R J H'
structure DIE (X : Cx) (Y : Cy) (tg iter : Expr) (w : IW) : Prop where
  pi : PI X tg iter (iE X.K Y w)
  mono : ∀ (en : En) (Q Q' : List PyData → Prop), (∀ x, Q x → Q' x) → w en Q → w en Q'
theorem DI.e {X : Cx} {Y : Cy} {tg iter : Expr} {w : IW} (h : DI X Y tg iter w) : DIE X Y tg iter w :=
  ⟨piW h.pi fun σ H R ⟨en, B, I, q⟩ => ⟨en, B, I, h.mono en _ _ (fun xs q J B' H' e wf wd => q J B' H' e wf wd.e) q⟩, h.mono⟩
def wSeqE (wa : EW) : IW := fun en Q => wa en fun x => seqF (asL x) Q
theorem die_seq {X : Cx} {Y : Cy} {tg e : Expr} {wa : EW} (ha : DE X Y e wa) : DIE X Y tg e (wSeqE wa) := by
  refine ⟨⟨fun pins s σ H R I ⟨en, B, J, h⟩ => ?_⟩, fun en Q Q' i h => ha.mono en _ _ (fun _ h => seqF_mono h i) h⟩
  refine thn (ha.pe.run pins s σ H (fun v H1 => (∃ a, v = .ref a ∧ (∃ xs, SqL X.K H1 a xs) ∧ R (Itl X.K a) H1) ∨ ∃ a, v = .ref a ∧ (∃ xs, SqT X.K H1 a xs) ∧ R (Itt X.K a) H1) I ⟨en, B, J, ha.mono en _ _ (fun x h v B' H' e w s => ?_) h⟩) fun v s1 ⟨x, H1, I1, r1, q1⟩ => ?_
  · cases x with
    | o _ => exact h.elim
    | p _ => exact h.elim
    | l xs =>
      obtain ⟨p, vs, rfl, hp, hb, h0, hd⟩ := s
      have hT : ¬ Y.Z.T p := fun t => J.w0.th p t h0
      refine .inl ⟨_, rfl, ⟨_, .of hp⟩, h _ _ _ e w ⟨fun i B1 H1 e1 w1 hi => ?_, fun B1 H1 e1 w1 => ?_, fun i B1 H1 v H2 e1 w1 hi y => ?_⟩⟩
      · exact ⟨vs, vs[i]'(by rw [hd.length]; exact hi), .of (e1.h p _ hp hT), by simp [hd.length, hi]⟩
      · exact ⟨vs, .of (e1.h p _ hp hT), by rw [hd.length]; exact Nat.le_refl _⟩
      · obtain ⟨ee, y⟩ := y
        subst ee
        obtain ⟨d, q1, q2⟩ := hd.getV (y vs (.of (e1.h p _ hp hT)))
        exact ⟨B1, d, Ext.refl _ _ _, w1, q1, q2.mono e1.b⟩
    | d x =>
      cases s <;> try exact h.elim
      · rename_i hp hd
        exact .inl ⟨_, rfl, ⟨_, .of (w.bh _ _ hp)⟩, h _ _ _ e w (walkL hp hd).e⟩
      · rename_i hp hd
        exact .inr ⟨_, rfl, ⟨_, SqT.of (w.bh _ _ hp)⟩, h _ _ _ e w (walkT (.of hp) hd).e⟩
  · rcases q1 with ⟨a, rfl, ⟨xs, hq⟩, q⟩ | ⟨a, rfl, ⟨xs, hq⟩, q⟩
    · cases r1
      obtain ⟨its, rv, p, hz⟩ := I1.list hq
      refine wpAny_pyIter_list p.isList ?_
      refine ⟨s1.heap.objs.size, [s1.heap.objs.size], _, _, H1, rfl, I1.kept (t' := s1.toks) fun b o e => Heap.get?_push_of_some _ e, turn_list a _, ⟨_, Heap.get?_push_size _ rfl, rfl, rfl⟩, fun b hb => ?_, q⟩
      have e : b = s1.heap.objs.size := by simpa using hb
      subst e
      exact I1.fpOk (Nat.le_refl _) (I1.hok.fresh (Nat.le_refl _))
    · cases r1
      obtain ⟨its, rv, p, hz⟩ := I1.tuple hq
      refine wpAny_pyIter_tuple (show s1.heap.IsTuple a its.toArray from p) ?_
      refine ⟨s1.heap.objs.size, [s1.heap.objs.size], _, _, H1, rfl, I1.kept (t' := s1.toks) fun b o e => Heap.get?_push_of_some _ e, turn_tuple a _, ⟨_, Heap.get?_push_size _ rfl, rfl, rfl⟩, fun b hb => ?_, q⟩
      have e : b = s1.heap.objs.size := by simpa using hb
      subst e
      exact I1.fpOk (Nat.le_refl _) (I1.hok.fresh (Nat.le_refl _))

/-! ### for -/
def loopW (g : Tg) (wb : SW) (D : DEnds) : List PyData → En → Prop
  | [], en => D.nx en
  | x :: xs, en => match g.bind x en with
    | some en' => wb { D with nx := loopW g wb D xs, ct := loopW g wb D xs, bk := D.nx } en'
    | none => False
def wFor (wi : IW) (g : Tg) (wb : SW) : SW := fun D en => wi en fun xs => loopW g wb D xs en
section
variable {X : Cx} {Y : Cy} {tg iter : Expr} {body : List Stmt} {wi : IW} {g : Tg} {wb : SW} {pos : Pos}
theorem loop_mono (m : ∀ (en : En) (D D' : DEnds), DEnds.Le D D' → wb D en → wb D' en) {D D' : DEnds} (l : DEnds.Le D D') : ∀ (xs : List PyData) (en : En), loopW g wb D xs en → loopW g wb D' xs en
  | [], en, h => l.nx _ h
  | x :: xs, en, h => by
    unfold loopW at h ⊢
    split at h
    · exact m _ { D with nx := loopW g wb D xs, ct := loopW g wb D xs, bk := D.nx } { D' with nx := loopW g wb D' xs, ct := loopW g wb D' xs, bk := D'.nx } ⟨fun e h => loop_mono m l xs e h, l.rt, l.nx, fun e h => loop_mono m l xs e h⟩ h
    · exact h.elim
theorem ds_for (hi : DI X Y tg iter wi) (hg : DG X tg g) (hb : DSs X Y body wb) (hp : PassesOwn (model X.prog X.w) X.A X.env X.xe := by exact PassesOwn.never) (hc : X.calm = true := by rfl)
    (hs : ∀ x, foldedSetIterable iter X.env x = pure x := by intro _; rfl) : DS X Y (.For tg iter body [] pos) (wFor wi g wb) := by
  refine ⟨psW (ps_for hp hc hi.pi hg.pg hb.ps hs) fun D σ H ⟨en, B, I, h⟩ => ⟨en, B, I, hi.mono en _ _ (fun xs h J B' H' e w wd => ?_) h⟩, fun en D D' l h => hi.mono en _ _ (fun xs h => loop_mono hb.mono l xs en h) h⟩
  have wk : Walk J xs.length (fun H1 => ∃ B1, Sub B' B1 ∧ Wf Y.Z B1 H1) (fun i H1 v H2 => J.yld i H1 v H2) :=
    ⟨fun i H1 hi ⟨B1, s, w1⟩ => wd.goes i B1 H1 s w1 hi, fun H1 ⟨B1, s, w1⟩ => wd.stops B1 H1 s w1, fun _ _ _ _ _ _ y => y⟩
  refine for_it wk (fun i σ1 H1 => ∃ en1 B1, Sub B' B1 ∧ SI X.K Y en1 σ1 B1 H1 ∧ loopW g wb (ends X.K Y B D) (xs.drop i) en1) ⟨en, B', Sub.refl _, I.ext e w, h⟩ (fun i σ1 H1 _ ⟨en1, B1, s1, I1, _⟩ => ⟨B1, s1, I1.wf⟩) ?_ ?_
  · rintro i v σ1 H1 H2 hi ⟨en1, B1, s1, I1, h1⟩ y
    obtain ⟨B2, d, e2, w2, hd, hv⟩ := wd.yields i B1 H1 v H2 s1 I1.wf hi y
    have ed : xs.drop i = d :: xs.drop (i + 1) := by
      have hx := (List.getElem?_eq_some_iff.mp hd).2
      rw [List.drop_eq_getElem_cons hi, hx]
    rw [ed] at h1
    unfold loopW at h1
    split at h1
    · rename_i en' hen
      have I2 := I1.ext e2 w2
      have s2 : Sub B' B2 := s1.trans e2.b
      refine tg_run g v d en1 en' σ1 B2 H2 _ I2 hv hen fun σ' I' _ => ⟨en', B2, I', hb.mono _ { ends X.K Y B D with nx := loopW g wb (ends X.K Y B D) (xs.drop (i + 1)), ct := loopW g wb (ends X.K Y B D) (xs.drop (i + 1)), bk := (ends X.K Y B D).nx } _ ?_ h1⟩
      exact ⟨fun e h σ3 B3 H3 s3 I3 => ⟨e, B3, s2.trans s3, I3, h⟩, fun _ h => h, fun e' h σ3 B3 H3 s3 I3 => h σ3 B3 H3 (e.b.trans (s2.trans s3)) I3, fun e h σ3 B3 H3 s3 I3 => ⟨e, B3, s2.trans s3, I3, h⟩⟩
    · exact h1.elim
  · rintro σ1 H1 ⟨en1, B1, s1, I1, h1⟩
    rw [List.drop_length] at h1
    exact h1 σ1 B1 H1 (e.b.trans s1) I1

/-! ### comprehensions -/
structure DTs (X : Cx) (Y : Cy) (ifs : List Expr) (w : TW) : Prop where
  pt : PTs X ifs (tDT X.K Y w)
  mono : ∀ (en : En) (Q Q' : Bool → Prop), (∀ x, Q x → Q' x) → w en Q → w en Q'
def wYes : TW := fun _ Q => Q true
theorem dts_nil : DTs X Y [] wYes := ⟨⟨fun pins s σ H Q I h => pts_nil.run pins s σ H Q I (by
  obtain ⟨en, B, J, h⟩ := h
  exact h B H (Ext.refl _ _ _) J.wf)⟩, fun _ _ _ i h => i _ h⟩
theorem dts_one {c : Expr} {wt : TW} (h : DT X Y c wt) : DTs X Y [c] wt := ⟨pts_one h.pt, h.mono⟩
def lcW (g : Tg) (wt : TW) (we : EW) : List PyData → En → List PyData → (List PyData → Prop) → Prop
  | [], _, acc, k => k acc
  | x :: xs, en, acc, k => match g.bind x en with
    | some en' => wt en' fun b => match b with
      | true => we en' fun y => onD y fun d => acc.length < sizeLine ∧ lcW g wt we xs en (acc ++ [d]) k
      | false => lcW g wt we xs en acc k
    | none => False
def wLc (wi : IW) (g : Tg) (wt : TW) (we : EW) (vs : List Nat) : EW := fun en Q => wi en fun xs => lcW g wt we xs (wipeE en vs) [] fun ds => Q (.d (.list ds))
theorem lc_mono {wt : TW} {we : EW} (mt : ∀ (en : En) (Q Q' : Bool → Prop), (∀ x, Q x → Q' x) → wt en Q → wt en Q') (me : ∀ (en : En) (Q Q' : DV → Prop), (∀ x, Q x → Q' x) → we en Q → we en Q') :
    ∀ (xs : List PyData) (en : En) (acc : List PyData) (k k' : List PyData → Prop), (∀ ds, k ds → k' ds) → lcW g wt we xs en acc k → lcW g wt we xs en acc k'
  | [], en, acc, k, k', i, h => i _ h
  | x :: xs, en, acc, k, k', i, h => by
    unfold lcW at h ⊢
    split at h
    · refine mt _ _ _ (fun b h => ?_) h
      cases b with
      | true => exact me _ _ _ (fun y h => onD_mono h fun d h => ⟨h.1, lc_mono mt me xs _ _ _ _ i h.2⟩) h
      | false => exact lc_mono mt me xs _ _ _ _ i h
    · exact h.elim
/-- the new list at D while it grows -/
structure Grow (K : PySem.W.Frag) (Y : Cy) (en : En) (σ : L2.St) (B' H1 : Hp) (D : Addr) (acc : List PyData) (B1 H : Hp) : Prop where
  e : Ext Y.Z B' H1 B1 H
  w : Wf Y.Z B1 H
  b : B1 D = none
  at_ : ∃ vs, H D = some (.lst vs) ∧ DaAll K B1 vs acc
theorem lc_run {we : EW} {wt : TW} {vs : List Nat} {J : It} {xs : List PyData} {K : PySem.W.Frag} {en : En} {σ : L2.St} {B' H1 : Hp} {D : Addr} {k : List PyData → Prop} {Qd : Hp → Prop}
    (I : SI K Y en σ B' H1) (hD : H1 D = none) (wd : WalkE K Y.Z B' H1 J xs)
    (hv : ∀ i ∈ g.slots, i ∈ vs) (mt : ∀ (en : En) (Q Q' : Bool → Prop), (∀ x, Q x → Q' x) → wt en Q → wt en Q') (me : ∀ (en : En) (Q Q' : DV → Prop), (∀ x, Q x → Q' x) → we en Q → we en Q')
    (h : lcW g wt we xs (wipeE en vs) [] k) (hd : ∀ ds B1 H, Grow K Y en σ B' H1 D ds B1 H → k ds → Qd H) :
    ∃ W : Nat → Nat → Hp → Prop, (∃ m, W 0 m (upd H1 D (.lst []))) ∧ ∀ i m H, W i m H →
      (J.stop i H ∧ Qd H) ∨ (J.go i H ∧ ∃ Nx : Hp → Prop, (∀ H', Nx H' → ∃ m', m' < m ∧ W (i + 1) m' H') ∧ ∀ x H', J.yld i H x H' → tgT K g x (wipe σ vs) H' fun σ2 H2 => wipe σ2 vs = wipe σ vs ∧ tDT K Y wt σ2 H2 fun b H3 =>
        if b = true then tD K Y we σ2 H3 fun y H4 => ∃ acc, H4 D = some (.lst acc) ∧ acc.length < sizeLine ∧ Nx (upd H4 D (.lst (acc ++ [y]))) else Nx H3) := by
  have hB : B' D = none := I.wf.bh.free hD
  have h0 := fresh0 I hD
  have hT : ¬ Y.Z.T D := fun t => I.w0.th D t h0
  have nD : ∀ (j : Nat) (ys : List PyData), en[j]? = some (some (.l ys)) → σ[j]? ≠ some (some (.ref D)) := fun j ys g1 g2 => by
    obtain ⟨u, g3, q, us, rfl, hq, _⟩ := I.slot j _ g1
    rw [g3] at g2; cases g2
    rw [hD] at hq; cases hq
  have wk : Walk J xs.length (fun H => ∃ B1, Ext Y.Z B' H1 B1 H ∧ Wf Y.Z B1 H) (fun i H1 v H2 => J.yld i H1 v H2) :=
    ⟨fun i H1 hi ⟨B1, s, w1⟩ => wd.goes i B1 H1 s w1 hi, fun H1 ⟨B1, s, w1⟩ => wd.stops B1 H1 s w1, fun _ _ _ _ _ _ y => y⟩
  have ww : ∀ {τ : L2.St}, wipe (wipe σ vs) vs = wipe σ vs → True := fun _ => trivial
  have wwE : ∀ us : List Nat, wipe (wipe σ us) us = wipe σ us := by
    intro us
    have aux : ∀ (us ws : List Nat), (∀ i ∈ us, i ∈ ws) → wipe (wipe σ us) ws = wipe σ ws := by
      intro us
      induction us with
      | nil => intro ws _; rfl
      | cons u r ih =>
        intro ws hw
        show wipe ((wipe σ r).set u none) ws = _
        rw [wipe_set (hw u (by simp)), ih ws fun i hi => hw i (List.mem_cons_of_mem _ hi)]
    exact aux us us fun _ h => h
  refine lc_it wk (fun i H => ∃ B1 acc, Grow K Y en σ B' H1 D acc B1 H ∧ lcW g wt we (xs.drop i) (wipeE en vs) acc k) ⟨B', [], ⟨Ext.newH hD, I.wf.newH hD, hB, [], upd_same, .nil⟩, h⟩ (fun i H _ ⟨B1, acc, G, _⟩ => ⟨B1, G.e, G.w⟩) ?_ ?_
  · rintro i v H H2 hi ⟨B1, acc, G, h1⟩ y
    obtain ⟨B2, d, e2, w2, hdd, hvd⟩ := wd.yields i B1 H v H2 G.e G.w hi y
    have ed : xs.drop i = d :: xs.drop (i + 1) := by
      have hx := (List.getElem?_eq_some_iff.mp hdd).2
      rw [List.drop_eq_getElem_cons hi, hx]
    rw [ed] at h1
    unfold lcW at h1
    split at h1
    · rename_i en' hen
      have I2 : SI K Y (wipeE en vs) (wipe σ vs) B2 H2 := ((I.ext G.e G.w).ext e2 w2).wipe vs
      obtain ⟨us, hus, hacc⟩ := G.at_
      have hD2 : H2 D = some (.lst us) := e2.h D _ hus hT
      have hb2 : B2 D = none := e2.f D G.b (by rw [hus]; simp)
      refine tg_run g v d _ en' _ B2 H2 _ I2 hvd hen fun σ' I' hw => ⟨by rw [hw vs hv, wwE], en', B2, I', mt _ _ _ (fun b hq B3 H3 e3 w3 => ?_) h1⟩
      have e13 := (G.e.trans I.wf G.w e2).trans I.wf w2 e3
      have hD3 : H3 D = some (.lst us) := e3.h D _ hD2 hT
      have hb3 : B3 D = none := e3.f D hb2 (by rw [hD2]; simp)
      cases b with
      | false => exact iteF ⟨B3, acc, ⟨e13, w3, hb3, us, hD3, hacc.mono (e2.b.trans e3.b)⟩, hq⟩
      | true =>
        refine iteT ⟨en', B3, I'.ext e3 w3, me _ _ _ (fun y hq u B4 H4 e4 w4 s4 => ?_) hq⟩
        cases y <;> try exact hq.elim
        rename_i dy
        have hD4 : H4 D = some (.lst us) := e4.h D _ hD3 hT
        have hb4 : B4 D = none := e4.f D hb3 (by rw [hD3]; simp)
        have hacc4 := hacc.mono ((e2.b.trans e3.b).trans e4.b)
        refine ⟨us, hD4, by rw [hacc.length]; exact hq.1, B4, acc ++ [dy], ⟨⟨(e13.trans I.wf w3 e4).b, fun a o ha ht => ?_, (e13.trans I.wf w3 e4).f⟩, w4.chg hb4 hT, hb4, us ++ [u], upd_same, hacc4.append (.cons s4 .nil)⟩, hq.2⟩
        rw [upd_ne (by rintro rfl; rw [hD] at ha; cases ha)]
        exact (e13.trans I.wf w3 e4).h a o ha ht
    · exact h1.elim
  · rintro H ⟨B1, acc, G, h1⟩
    rw [List.drop_length] at h1
    exact hd _ _ _ G h1
theorem grow_end {K : PySem.W.Frag} {en : En} {σ : L2.St} {B H B' H1 : Hp} {D : Addr} {ds : List PyData} {B1 H2 : Hp} (I : SI K Y en σ B H) (e : Ext Y.Z B H B' H1) (w : Wf Y.Z B' H1) (hD : H1 D = none) (G : Grow K Y en σ B' H1 D ds B1 H2) :
    ∃ B2, Ext Y.Z B H B2 H2 ∧ Wf Y.Z B2 H2 ∧ Da K B2 (.ref D) (.list ds) := by
  obtain ⟨us, hus, hacc⟩ := G.at_
  have h0 := fresh0 (I.ext e w) hD
  have hT : ¬ Y.Z.T D := fun t => I.w0.th D t h0
  have sb : Sub B1 (upd B1 D (.lst us)) := Sub.new G.b
  refine ⟨upd B1 D (.lst us), e.trans I.wf w ⟨G.e.b.trans sb, G.e.h, fun a h n => ?_⟩, G.w.frz hus G.b hT, .lst upd_same (hacc.mono sb)⟩
  rw [upd_ne (by rintro rfl; exact n hD)]
  exact G.e.f a h n
theorem wLc_mono {we : EW} {wt : TW} {vs : List Nat} (mi : ∀ (en : En) (Q Q' : List PyData → Prop), (∀ x, Q x → Q' x) → wi en Q → wi en Q') (mt : ∀ (en : En) (Q Q' : Bool → Prop), (∀ x, Q x → Q' x) → wt en Q → wt en Q') (me : ∀ (en : En) (Q Q' : DV → Prop), (∀ x, Q x → Q' x) → we en Q → we en Q') :
    ∀ (en : En) (Q Q' : DV → Prop), (∀ x, Q x → Q' x) → wLc wi g wt we vs en Q → wLc wi g wt we vs en Q' := fun en Q Q' i h => mi _ _ _ (fun xs h => lc_mono mt me _ _ _ _ _ (fun _ h => i _ h) h) h
section
variable {elt : Expr} {ifs : List Expr} {scope : Scope} {own : List (Str × Nat)} {wt : TW} {we : EW}
structure AnyX (X : Cx) : Prop where
  s : Nonempty Shared
theorem monoLc (ht : ∀ (s : Shared) (H : Hp) (C : Addr) (cl : List (Str × Addr)) (fp : List Addr), DTs (X.blk s H scope (compEnvC scope cl C X.env) fp) Y ifs wt)
    (he : ∀ (s : Shared) (H : Hp) (C : Addr) (cl : List (Str × Addr)) (fp : List Addr), DE (X.blk s H scope (compEnvC scope cl C X.env) fp) Y elt we) (X0 : Nonempty Cx) :
    (∀ (en : En) (Q Q' : Bool → Prop), (∀ x, Q x → Q' x) → wt en Q → wt en Q') ∧ (∀ (en : En) (Q Q' : DV → Prop), (∀ x, Q x → Q' x) → we en Q → we en Q') :=
  ⟨(ht X.s_0 X.H_0 0 [] []).mono, (he X.s_0 X.H_0 0 [] []).mono⟩
theorem de_lc (own : List (Str × Nat)) (hN : X.N.Nodup) (hi : DIE X Y tg iter wi) (ok : blkC X.N X.env.scope scope own = true)
    (hg : ∀ (s : Shared) (H : Hp) (C : Addr) (cl : List (Str × Addr)) (fp : List Addr), DG (X.blk s H scope (compEnvC scope cl C X.env) fp) tg g)
    (ht : ∀ (s : Shared) (H : Hp) (C : Addr) (cl : List (Str × Addr)) (fp : List Addr), DTs (X.blk s H scope (compEnvC scope cl C X.env) fp) Y ifs wt)
    (he : ∀ (s : Shared) (H : Hp) (C : Addr) (cl : List (Str × Addr)) (fp : List Addr), DE (X.blk s H scope (compEnvC scope cl C X.env) fp) Y elt we)
    (hv : ∀ i ∈ g.slots, i ∈ own.map (·.2) := by decide) (hc : X.calm = true := by rfl) (hs : ∀ x, foldedSetIterable iter X.env x = pure x := by intro _; rfl) :
    DE X Y (.ListComp elt [⟨tg, iter, ifs, 0⟩] scope pos) (wLc wi g wt we (own.map (·.2))) := by
  obtain ⟨mt, me⟩ := monoLc ht he ⟨X⟩
  refine ⟨peW (pe_lc (g := tgT X.K g) (tt := tDT X.K Y wt) (te := tD X.K Y we) hc hN hi.pi (blkOk_by ok) (fun s H C cl fp => (hg s H C cl fp).pg) (fun s H C cl fp => (ht s H C cl fp).pt) (fun s H C cl fp => (he s H C cl fp).pe) hs) fun σ H Q ⟨en, B, I, h⟩ => ⟨en, B, I, hi.mono en _ _ (fun xs h J B' H' e w wd D hD => ?_) h⟩, ?_⟩
  · exact lc_run (I.ext e w) hD wd hv mt me h fun ds B1 H2 G hq => by
      obtain ⟨B2, e2, w2, hd⟩ := grow_end I e w hD G
      exact hq _ _ _ e2 w2 hd
  · exact wLc_mono hi.mono mt me
/-- y = [..] on one line -/
def wSetLc (i : Nat) (wa : EW) : SW := wSet i wa
theorem ds_lc (i : Nat) (own : List (Str × Nat)) {y : Str} {py spos : Pos} (hN : X.N.Nodup) (hi : DIE X Y tg iter wi) (ok : blkC X.N X.env.scope scope own = true)
    (hg : ∀ (s : Shared) (H : Hp) (C : Addr) (cl : List (Str × Addr)) (fp : List Addr), DG (X.blk s H scope (compEnvC scope cl C X.env) fp) tg g)
    (ht : ∀ (s : Shared) (H : Hp) (C : Addr) (cl : List (Str × Addr)) (fp : List Addr), DTs (X.blk s H scope (compEnvC scope cl C X.env) fp) Y ifs wt)
    (he : ∀ (s : Shared) (H : Hp) (C : Addr) (cl : List (Str × Addr)) (fp : List Addr), DE (X.blk s H scope (compEnvC scope cl C X.env) fp) Y elt we)
    (hsw : swapsWith (.ListComp elt [⟨tg, iter, ifs, 0⟩] scope pos) (some (.Name y py)) spos.line X.env = pure true := by exact sw_true rfl rfl rfl (by decide +kernel))
    (hy : X.N[i]? = some y := by rfl) (hyl : X.env.scope.names.lookup y = some .local := by rfl)
    (hv : ∀ i ∈ g.slots, i ∈ own.map (·.2) := by decide) (hc : X.calm = true := by rfl) (hs : ∀ x, foldedSetIterable iter X.env x = pure x := by intro _; rfl) :
    DS X Y (.Assign [.Name y py] (.ListComp elt [⟨tg, iter, ifs, 0⟩] scope pos) spos) (wSetLc i (wLc wi g wt we (own.map (·.2)))) := by
  obtain ⟨mt, me⟩ := monoLc ht he ⟨X⟩
  refine ⟨psW (ps_setLc (i := i) (g := tgT X.K g) (tt := tDT X.K Y wt) (te := tD X.K Y we) hc hN hy hyl hsw hi.pi (blkOk_by ok) (fun s H C cl fp => (hg s H C cl fp).pg) (fun s H C cl fp => (ht s H C cl fp).pt) (fun s H C cl fp => (he s H C cl fp).pe) hs) fun D0 σ H ⟨en, B, I, h⟩ => ⟨en, B, I, hi.mono en _ _ (fun xs h J B' H' e w wd D hD => ?_) h⟩, set_mono (wLc_mono hi.mono mt me)⟩
  exact lc_run (I.ext e w) hD wd hv mt me h fun ds B1 H2 G hq => by
    obtain ⟨B2, e2, w2, hd⟩ := grow_end I e w hD G
    exact hq.2 _ B2 _ e2.b ((I.ext e2 w2).putP (x := .d (.list ds)) hd trivial)
end
end
end DL

set_option maxRecDepth 100000
set_option maxHeartbeats 2000000
namespace DL
open PySem L2

/-! ### a def -/
def startE (n : Nat) (xs : List DV) : En := xs.map some ++ List.replicate (n - xs.length) none
theorem startE_slot {K : PySem.W.Frag} {Y : Cy} {B H : Hp} : ∀ {xs : List DV} {vs : List V}, SVps K B xs vs → ∀ (n : Nat) (i : Nat) (x : DV), (xs.map some ++ List.replicate n none)[i]? = some (some x) → ∃ v, (vs.map some ++ List.replicate n none)[i]? = some (some v) ∧ SVp K B x v
  | _, _, .nil, n, i, x, h => by
    simp at h
    rw [List.getElem?_replicate] at h
    split at h <;> simp at h
  | _, _, .cons s ss, n, 0, x, h => by
    simp at h; subst h
    exact ⟨_, by simp, s⟩
  | _, _, .cons s ss, n, i + 1, x, h => by
    obtain ⟨v, h1, h2⟩ := startE_slot (Y := Y) (H := H) ss n i x (by simpa using h)
    exact ⟨v, by simpa using h1, h2⟩
section
variable {P : Program} {w : World} {K : PySem.W.Frag} {mg : Str → Option Value} {base : Heap}
/-- THE RULE for a def over data -/
theorem okD {x qual : Str} {st : Stmt} {f : Addr} {fd : FuncData} {N ps : List Str} {k : Nat} {sp : SpD} {Z : Res} (F : Fun K x qual st f fd) (hm : mg x = some (.ref f)) (hb : Binds K fd ps []) (S : FnScope N ps (defScope st)) (m : MonoS sp)
    (len : ∀ xs Q, sp xs Q → xs.length = ps.length)
    (hbody : ∃ W : SW, (∀ (cdv : Value) (A : Around) (outer : List Env) (s : Shared) (H : Hp) (E : XK) (B0 H0 : Hp), Room k (A.deeper (PyProof.Rows.envOfC qual (defScope st) s.heap.objs.size f cdv)) → DSs (cxOf CX0 P w K mg base N qual (defScope st) f cdv A outer s H E).nox ⟨Z, B0, H0⟩ (defBody st) W) ∧
      ∀ (xs : List DV) (R : DV → Prop), sp xs R → W { nx := fun _ => R (.d .none), rt := R } (startE N.length xs)) : Cal P w K mg base Z (k + 1) x sp := by
  obtain ⟨W, hbody, hw⟩ := hbody
  refine ⟨⟨f, fd, ps, [], [], DSp K Z sp, F.ok S (fun vs H Q E h => ?_) (fun cdv A outer s H vs Q E hr h => ?_), hm, F.kp, hb, .nil, fun vs H Q E h => by rw [List.append_nil]; exact h⟩, m⟩
  · obtain ⟨B, xs, wf, sv, h⟩ := h
    rw [← sv.length]
    exact len _ _ h
  · obtain ⟨B, xs, wf, sv, h⟩ := h
    have hb := hbody cdv A outer s H E B H hr
    refine ⟨_, hb.ps, startE N.length xs, B, ⟨wf, wf, Ext.refl _ _ _, ?_, fun i x hx => ?_, fun i j ys zs p h1 => ?_⟩, hb.mono _ _ _ ?_ (hw xs _ h)⟩
    · simp [startE, L2.start, sv.length]
    · obtain ⟨v, h1, h2⟩ := startE_slot (Y := ⟨Z, B, H⟩) (H := H) sv _ i x hx
      exact ⟨v, by rw [sv.length] at h1; exact h1, h2.sv⟩
    · obtain ⟨v, _, h2⟩ := startE_slot (Y := ⟨Z, B, H⟩) (H := H) sv _ i _ h1
      exact h2.elim
    · refine ⟨fun en h σ B' H' sb I => h _ B' H' I.ex I.wf .non, fun x h v B' H' e w s => h v B' H' e w s, fun _ h => h.elim, fun _ h => h.elim⟩
end

/-! ### ways to say a promise -/
/-- from typed arguments to typed results -/
def spF {α : Type} (args : α → List DV) (pre : α → Prop) (post : α → DV → Prop) : SpD := fun xs Q => ∃ a, xs = args a ∧ pre a ∧ ∀ x, post a x → Q x
theorem spF_mono {α : Type} {args : α → List DV} {pre : α → Prop} {post : α → DV → Prop} : MonoS (spF args pre post) := fun xs Q Q' i ⟨a, e, p, h⟩ => ⟨a, e, p, fun x q => i _ (h x q)⟩
/-- a pure def: its value -/
def spV {α : Type} (args : α → List DV) (pre : α → Prop) (val : α → PyData) : SpD := fun xs Q => ∃ a, xs = args a ∧ pre a ∧ Q (.d (val a))
theorem spV_mono {α : Type} {args : α → List DV} {pre : α → Prop} {val : α → PyData} : MonoS (spV args pre val) := fun xs Q Q' i ⟨a, e, p, h⟩ => ⟨a, e, p, i _ h⟩
end DL

set_option maxRecDepth 100000
set_option maxHeartbeats 2000000
/-! ### enumerate(v), v a tuple or any other value whose iterator is known, with one argument -/
namespace DL0
open PySem
open Sem (wp)
open AutoSeq1 (wpAny_loadPart')
set_option maxHeartbeats 1000000 in
theorem meets_enumerate_new1 {v : Value} {o : Obj} {H : Heap → Prop} (B : Begins v o H) :
    Meets (Builtin.«enumerate.__new__» ⟨[.type "enumerate", v], []⟩) (fun _ R s => H s.heap ∧
      R (.ok (.ret (.ref (s.heap.push o).objs.size))) { s with heap := (s.heap.push o).push { cls := .type "enumerate", data := .fields #[.none, .bool false, .ref s.heap.objs.size, rawInt 0, .none, .none] } }) :=
  .of_wp fun prog w A R s h => by
    obtain ⟨hp, g, d, tk, os⟩ := s; obtain ⟨h1, h⟩ := h
    have hsub := sub_enumerate
    have q1 : ∀ {A' : Around} {E : Value → Shared → Prop} {Q : Value → Shared → Prop}, Q (.ref hp.objs.size) ⟨hp.push o, g, d, tk, os⟩ → wpAny (model prog w) A' (pyIter v) Q E ⟨hp, g, d, tk, os⟩ :=
      fun q => B.iter prog w _ _ ⟨hp, g, d, tk, os⟩ _ h1 q
    wp_walk using q1
    refine wpAny_stack_any fun st => wpAny_pure ?_
    split
    · rename_i c _ _ _ _ _
      cases (c == Value.type "enumerate")
      · wp_walk using q1
        exact ⟨_, rfl, h⟩
      · wp_walk using q1
        exact ⟨_, rfl, h⟩
    · wp_walk using q1
      exact ⟨_, rfl, h⟩
section
variable {prog : Program} {w : World} {A : Around} {E : Value → Shared → Prop} {s : Shared}
theorem enum_begins1 {v : Value} {o : Obj} {H : Heap → Prop} {Q : Value → Shared → Prop} (B : Begins v o H) (h1 : H s.heap)
    (h : ∀ h', IsEnum h' (s.heap.objs.size + 1) s.heap.objs.size 0 .none → h'.get? s.heap.objs.size = some o → h'.objs.size = s.heap.objs.size + 2 →
      (∀ b o, s.heap.get? b = some o → h'.get? b = some o) → Q (.ref (s.heap.objs.size + 1)) { s with heap := h' }) :
    wpAny (model prog w) A (call (.type "enumerate") [v]) Q E s := by
  refine callType_new F.called_enumerate (by decide) (F.typeCall_enumerate_1 _) (F.newCall_enumerate_1 _) (fun obj => F.args_object_init_2 obj _) F.entry_enumerate_new
    (meets_enumerate_new1 B) ⟨h1, ?_⟩
  have hz : (s.heap.push o).objs.size = s.heap.objs.size + 1 := Heap.size_push ..
  show _ ∧ _
  rw [hz]
  have he : IsEnum ((s.heap.push o).push { cls := .type "enumerate", data := .fields #[.none, .bool false, .ref s.heap.objs.size, rawInt 0, .none, .none] }) (s.heap.objs.size + 1) s.heap.objs.size 0 .none := by
    have := Heap.get?_push_size (s.heap.push o) (o := { cls := .type "enumerate", data := .fields #[.none, .bool false, .ref s.heap.objs.size, rawInt 0, .none, .none] }) rfl
    rw [hz] at this; exact this
  refine ⟨⟨_, he, rfl⟩, h _ he (Heap.get?_push_of_some _ (Heap.get?_push_size _ B.free)) (by rw [Heap.size_push, hz]) fun b o x => Heap.get?_push_of_some _ (Heap.get?_push_of_some _ x)⟩
end

/-! ### t[::k], k one or minus one -/
section
open PyProof.Rows
variable {prog : Program} {w : World} {A : Around} {E : Value → Shared → Prop} {s : Shared}
theorem fm_congr {α β : Type} {f g : α → Option β} : ∀ {l : List α}, (∀ a ∈ l, f a = g a) → l.filterMap f = l.filterMap g
  | [], _ => rfl
  | a :: l, h => by
    rw [List.filterMap_cons, List.filterMap_cons, h a (by simp), fm_congr (l := l) fun b hb => h b (by simp [hb])]
theorem fm_take {α : Type} (l : List α) : ∀ n, n ≤ l.length → (List.range n).filterMap (fun k => l[k]?) = l.take n
  | 0, _ => rfl
  | n + 1, hn => by
    rw [List.range_succ, List.filterMap_append, fm_take l n (by omega), List.take_succ]
    refine congrArg (l.take n ++ ·) ?_
    cases e : l[n]? <;> simp [e]
theorem rev_pick (xs : Array Value) : ((List.range xs.size).filterMap fun (k : Nat) => xs[(((xs.size : Int) - 1) + (k : Int) * (-1)).toNat]?).toArray = xs.toList.reverse.toArray := by
  congr 1
  have e : (List.range xs.size).filterMap (fun (k : Nat) => xs[(((xs.size : Int) - 1) + (k : Int) * (-1)).toNat]?) = (List.range xs.size).filterMap (fun (k : Nat) => xs.toList.reverse[k]?) := by
    apply fm_congr
    intro k hk
    have hk' : k < xs.size := List.mem_range.mp hk
    rw [List.getElem?_reverse (by simpa using hk')]
    rw [Array.getElem?_toList]
    congr 1 <;> (try simp only [Array.length_toList]) <;> (try omega)
  rw [e]
  have h2 := fm_take xs.toList.reverse xs.toList.reverse.length (Nat.le_refl _)
  rw [List.take_length] at h2
  simpa using h2
theorem adjust_rev (n : Nat) : Builtin.Slice.sliceAdjust none none (-1) (n : Int) = ((n : Int) - 1, -1) := by
  unfold Builtin.Slice.sliceAdjust
  simp
theorem places_rev (n : Nat) : Builtin.Slice.slicePlaces ((n : Int) - 1) (-1) (-1) = n := by
  unfold Builtin.Slice.slicePlaces
  have h1 : ¬ ((-1 : Int) > 0) := by omega
  simp only [h1, if_false]
  by_cases h : (n : Int) - 1 > -1
  · rw [if_pos h]
    have : ((n : Int) - 1 - -1 - 1) / (- -1) + 1 = n := by
      have e : (- -1 : Int) = 1 := rfl
      rw [e, Int.ediv_one]; omega
    rw [this]; rfl
  · rw [if_neg h]
    have : n = 0 := by omega
    subst this; rfl
theorem getItem_tuple_rev {t sl : Addr} {items : Array Value} {vl vu vs : Value} {Q : Value → Shared → Prop} (ht : PyProof.Rows.IsTup s.heap t items) (hs : s.heap.IsSliceOf sl vl vu vs) (pl : IsPart vl none) (pu : IsPart vu none) (ps : IsPart vs (some (-1)))
    (h : Q (.ref s.heap.objs.size) { s with heap := s.heap.push { cls := .type "tuple", data := .seq items.toList.reverse.toArray } })
    (hsz : items.size ≤ sizeLine) : wpAny (model prog w) A (getItem (.ref t) (.ref sl)) Q E s := by
  have htake : sizeOk (.seq items.toList.reverse.toArray) := by
    show items.toList.reverse.toArray.size ≤ sizeLine
    simpa using hsz
  obtain ⟨os, hos, hcs, hds⟩ := id hs
  have hTs : s.TypeIs (.ref sl) "slice" := ⟨os, hos, hcs⟩
  unfold getItem
  try with_reducible refine wpAny_holding ?_
  first | refine wpAny_bind (wpAny_pure ?_) | skip
  refine wpAny_bind (wpAny_sequenceKey ht.typeIs (by decide) ?_)
  refine wpAny_bind (wpAny_callSpecial?_slot (name := Str.ofString "__getitem__") ht.typeIs PyProof.Rows.slot_tuple_getitem
    (wpAny_call_entry PyProof.Rows.slot_tuple_getitem ht.typeIs entry_tuple_getitem ?_ (args_tuple_getitem _ _)))
  show wpAny _ _ (Builtin.Tuple.tupleItemsOf (.ref t) >>= _) _ _ s
  refine wpAny_bind (tupleItemsOf_ ht ?_)
  refine wpAny_bind (wpAny_typeOf hTs ?_)
  rw [if_pos (by decide)]
  have ap : ∀ {Q : Int × Int × Nat → Shared → Prop}, Q ((items.size : Int) - 1, -1, items.size) s → ∀ {A : Around} {E : Value → Shared → Prop}, wpAny (model prog w) A (Builtin.Slice.sliceApplied (.ref sl) (pure (items.size : Int))) Q E s := by
    intro Q hq A E
    unfold Builtin.Slice.sliceApplied Builtin.Slice.sliceFields
    refine wpAny_bind (wpAny_bind (wpAny_field hos hds (x := vl) rfl (wpAny_bind (wpAny_field hos hds (x := vu) rfl (wpAny_bind (wpAny_field hos hds (x := vs) rfl (wpAny_pure ?_)))))))
    refine wpAny_bind (HT.slicePart_ ps ?_)
    show wpAny _ _ (if ((-1 : Int) == 0) = true then _ else _) _ _ s
    rw [if_neg (by decide)]
    refine wpAny_bind (HT.slicePart_ pl (wpAny_bind (HT.slicePart_ pu (wpAny_bind (wpAny_pure ?_)))))
    show wpAny _ _ (match Builtin.Slice.sliceAdjust none none (-1) (items.size : Int) with | (lo, hi) => pure (lo, (-1 : Int), Builtin.Slice.slicePlaces lo hi (-1))) _ _ s
    rw [adjust_rev]
    show wpAny _ _ (pure ((items.size : Int) - 1, (-1 : Int), Builtin.Slice.slicePlaces ((items.size : Int) - 1) (-1) (-1))) _ _ s
    rw [places_rev]
    exact wpAny_pure hq
  refine wpAny_bind (ap ?_)
  have hno : ¬ (((((items.size : Int) - 1) == 0 && (-1 : Int) == 1 && items.size == items.size)) = true) := by simp
  show wpAny _ _ (if ((((items.size : Int) - 1) == 0 && (-1 : Int) == 1 && items.size == items.size)) = true then _ else _) _ _ s
  rw [if_neg hno, rev_pick]
  first
    | exact wpAny_bind (m := Builtin.Tuple.tupleExact _) (wpAny_newObj_type (wpAny_pure ⟨_, rfl, wpAny_pure h⟩) htake)
    | exact wpAny_bind (m := Builtin.Tuple.tupleExact _) (wpAny_newObj_type (wpAny_bind (wpAny_pure (wpAny_pure ⟨_, rfl, wpAny_pure h⟩))) htake)
    | exact wpAny_bind (wpAny_bind (m := Builtin.Tuple.tupleExact _) (wpAny_newObj_type (wpAny_pure (wpAny_pure ⟨_, rfl, wpAny_pure h⟩)) htake))
    | exact wpAny_bind (wpAny_bind (m := Builtin.Tuple.tupleExact _) (wpAny_newObj_type (wpAny_pure ⟨_, rfl, wpAny_pure h⟩) htake))
theorem getItem_tuple_one {t sl : Addr} {items : Array Value} {vl vu vs : Value} {Q : Value → Shared → Prop} (ht : PyProof.Rows.IsTup s.heap t items) (hs : s.heap.IsSliceOf sl vl vu vs) (pl : IsPart vl none) (pu : IsPart vu none) (ps : IsPart vs (some 1))
    (h : Q (.ref t) s) : wpAny (model prog w) A (getItem (.ref t) (.ref sl)) Q E s := by
  obtain ⟨os, hos, hcs, hds⟩ := id hs
  have hTs : s.TypeIs (.ref sl) "slice" := ⟨os, hos, hcs⟩
  unfold getItem
  try with_reducible refine wpAny_holding ?_
  first | refine wpAny_bind (wpAny_pure ?_) | skip
  refine wpAny_bind (wpAny_sequenceKey ht.typeIs (by decide) ?_)
  refine wpAny_bind (wpAny_callSpecial?_slot (name := Str.ofString "__getitem__") ht.typeIs PyProof.Rows.slot_tuple_getitem
    (wpAny_call_entry PyProof.Rows.slot_tuple_getitem ht.typeIs entry_tuple_getitem ?_ (args_tuple_getitem _ _)))
  show wpAny _ _ (Builtin.Tuple.tupleItemsOf (.ref t) >>= _) _ _ s
  refine wpAny_bind (tupleItemsOf_ ht ?_)
  refine wpAny_bind (wpAny_typeOf hTs ?_)
  rw [if_pos (by decide)]
  have ap : ∀ {Q : Int × Int × Nat → Shared → Prop}, Q (0, 1, items.size) s → ∀ {A : Around} {E : Value → Shared → Prop}, wpAny (model prog w) A (Builtin.Slice.sliceApplied (.ref sl) (pure (items.size : Int))) Q E s := by
    intro Q hq A E
    unfold Builtin.Slice.sliceApplied Builtin.Slice.sliceFields
    refine wpAny_bind (wpAny_bind (wpAny_field hos hds (x := vl) rfl (wpAny_bind (wpAny_field hos hds (x := vu) rfl (wpAny_bind (wpAny_field hos hds (x := vs) rfl (wpAny_pure ?_)))))))
    refine wpAny_bind (HT.slicePart_ ps ?_)
    show wpAny _ _ (if ((1 : Int) == 0) = true then _ else _) _ _ s
    rw [if_neg (by decide)]
    refine wpAny_bind (HT.slicePart_ pl (wpAny_bind (HT.slicePart_ pu (wpAny_bind (wpAny_pure ?_)))))
    show wpAny _ _ (match Builtin.Slice.sliceAdjust none none 1 (items.size : Int) with | (lo, hi) => pure (lo, (1 : Int), Builtin.Slice.slicePlaces lo hi 1)) _ _ s
    have e1 : Builtin.Slice.sliceAdjust none none 1 (items.size : Int) = (((0 : Nat) : Int), ((items.size : Nat) : Int)) := HT.adjust_gen none none items.size
    rw [e1]
    show wpAny _ _ (pure (((0 : Nat) : Int), (1 : Int), Builtin.Slice.slicePlaces ((0 : Nat) : Int) ((items.size : Nat) : Int) 1)) _ _ s
    rw [HT.places_gen]
    exact wpAny_pure hq
  refine wpAny_bind (ap ?_)
  have hyes : ((((0 : Int)) == 0 && (1 : Int) == 1 && items.size == items.size)) = true := by simp
  show wpAny _ _ (if ((((0 : Int)) == 0 && (1 : Int) == 1 && items.size == items.size)) = true then _ else _) _ _ s
  rw [if_pos hyes]
  refine wpAny_bind ?_
  show wpAny _ _ (typeOf (.ref t) >>= fun T => pure (T == .type "tuple")) _ _ s
  refine wpAny_bind (wpAny_typeOf ht.typeIs (wpAny_pure ?_))
  first
    | rw [if_pos (by decide)]
    | simp only [beq_self_eq_true, if_true]
  first
    | exact wpAny_bind (wpAny_rule (wpAny_pure ⟨_, rfl, wpAny_pure h⟩))
    | exact wpAny_bind (wpAny_rule (wpAny_bind (wpAny_pure (wpAny_pure ⟨_, rfl, wpAny_pure h⟩))))
end
end DL0

set_option maxRecDepth 100000
set_option maxHeartbeats 2000000
namespace DL
open PySem L2

/-! ### enumerate over a tuple -/
def Iet (K : PySem.W.Frag) (a : Addr) : It :=
  ⟨fun i H => ∃ (xs : List V) (x : V), SqT K H a xs ∧ xs[i]? = some x, fun i H v H' => ∃ T x, v = .ref T ∧ H T = none ∧ H' = upd H T (.tup [.int (i : Nat), x]) ∧ ∀ xs, SqT K H a xs → xs[i]? = some x, fun i H => ∃ xs : List V, SqT K H a xs ∧ i = xs.length⟩
theorem turn_enumT {P : Program} {w : World} {K : PySem.W.Frag} {elts : List Expr} {kk : Nat} {tpos : Pos} (a e it : Addr) (ha : a ≠ it) (hae : a ≠ e) :
    Turn P w K (.Tuple elts kk tpos) (Iet K a) [e, it] e (fun i h => (∃ old, IsEnum h e it ((i : Nat) : Int) old) ∧ h.IsTupleIter it a i ∧ e ≠ it) where
  mem := by simp
  obj := fun i h st b hb => by
    obtain ⟨⟨old, he⟩, ⟨o, ho, hc, hd⟩, _⟩ := st
    have e' : b = e ∨ b = it := by simpa using hb
    rcases e' with z | z
    · rw [z]; exact ⟨_, he, fun v q => nomatch q⟩
    · rw [z]; exact ⟨o, ho, fun v q => by rw [hd] at q; cases q⟩
  keep := fun i h h' st k => let ⟨⟨old, he⟩, hi, hne⟩ := st; ⟨⟨old, k e (by simp) _ he⟩, hi.at fun o q => k it (by simp) o q, hne⟩
  item := by
    intro X hP hw hK hc i pins s σ H E I hf st hg
    subst hP hw hK
    obtain ⟨⟨old, he⟩, hit, hne⟩ := st
    obtain ⟨xs, x, hq, hx⟩ := hg
    obtain ⟨its, rv, p, hz⟩ := I.tuple hq
    obtain ⟨u, hu, ru⟩ := rv.get hx
    have hel : e < s.heap.objs.size := Heap.lt_size he
    have hil : it < s.heap.objs.size := by obtain ⟨_, q, _⟩ := hit; exact Heap.lt_size q
    have pt : s.heap.IsTuple a its.toArray := p
    have hlt : i < its.toArray.size := by
      have := (List.getElem?_eq_some_iff.mp hu).1
      simpa using this
    refine wpAny_pyNext_enum_itemD (Draws.tuple (prog := X.prog) (w := X.w) (A := X.A.in1) (I.ok.hd hc) it a ha its.toArray) he ⟨hit, pt⟩ hlt hne (by simp only [List.mem_cons, List.not_mem_nil, or_false, not_or]; exact ⟨hne, Ne.symm hae⟩) fun u' h' tk hu' ho st' hT hsz hk => ?_
    have eu : u' = u := by
      have h1 : its.toArray[i]? = some u' := hu'
      rw [List.getElem?_toArray, hu] at h1
      exact (Option.some.inj h1).symm
    subst eu
    refine ⟨_, rfl, wpAny_letOwnedTupleGo_enum (s := { s with heap := h', toks := tk + 1 }) ho fun h'' he' sb => ?_⟩
    have hT2 : h''.get? s.heap.objs.size = some { cls := .type "tuple", data := .seq #[.int i tk, u'] } := (sb.2 _ (Nat.ne_of_gt hel)).trans hT
    have new : ObjOk X.prog X.w (upd H s.heap.objs.size (.tup [.int (i : Nat), x])) h'' s.heap.objs.size (.tup [.int (i : Nat), x]) :=
      ⟨by show 2 ≤ sizeLine; decide, [.int i tk, u'], .cons ⟨_, rfl⟩ (.cons ru .nil), ⟨_, hT2, rfl, _, rfl⟩⟩
    have I1 : Inv X pins σ (upd H s.heap.objs.size (.tup [.int (i : Nat), x])) { s with heap := h'', toks := tk + 1 } :=
      I.turnedNew (ch := [e, it]) (fun b ob hb q => (sb.2 b (fun z => hb (by simp [z]))).trans (hk b ob (fun z => hb (by simp [z])) (fun z => hb (by simp [z])) q)) hf (Nat.le_refl _) new
    refine ⟨.ref s.heap.objs.size, _, I1, rfl, ⟨_, x, rfl, I.hok.fresh (Nat.le_refl _), rfl, fun ys hy => by rw [I.tuple_inj hy hq]; exact hx⟩, ⟨⟨u', ?_⟩, st'.1.at fun o q => (sb.2 it (Ne.symm hne)).trans q, hne⟩, fun b hb => ?_⟩
    · have e1 : ((i + 1 : Nat) : Int) = (i : Int) + 1 := by omega
      rw [e1]; exact he'
    · have hb' : b < s.heap.objs.size := by
        have e' : b = e ∨ b = it := by simpa using hb
        rcases e' with z | z
        · rw [z]; exact hel
        · rw [z]; exact hil
      rw [upd_ne (Nat.ne_of_lt hb')]
      exact (hf b hb).1
  done := by
    intro X hP hw hK hc i pins s σ H E I hf st hg
    subst hP hw hK
    obtain ⟨⟨old, he⟩, hit, hne⟩ := st
    obtain ⟨xs, hq, hx⟩ := hg
    obtain ⟨its, rv, p, hz⟩ := I.tuple hq
    obtain ⟨f0, f1, f2, f3, f4, f5⟩ := hf it (by simp)
    have hl := rv.length
    have pt : s.heap.IsTuple a its.toArray := p
    have hi : i = its.toArray.size := by rw [hx, List.size_toArray]; exact hl
    subst hi
    exact wpAny_pyNext_enum_endD (Draws.tuple (prog := X.prog) (w := X.w) (A := X.A.in1) (I.ok.hd hc) it a ha its.toArray) he ⟨hit, pt⟩ fun h' eb => ⟨rfl, I.turned (t' := s.toks) (fun b o hb q => eb b o hb q) f0 f1 f3 f4 f5⟩
  self := fun A i s Q E st h => let ⟨⟨_, he⟩, _⟩ := st; wpAny_pyIter_enum he h

def enumD (xs : List PyData) : Nat → List PyData
  | i => match xs with
    | [] => []
    | x :: r => .tuple [.int (i : Int), x] :: enumD r (i + 1)
theorem enumD_len : ∀ (xs : List PyData) (i : Nat), (enumD xs i).length = xs.length
  | [], _ => by simp [enumD]
  | x :: r, i => by simp [enumD, enumD_len r (i + 1)]
theorem enumD_get : ∀ (xs : List PyData) (k i : Nat) (d : PyData), xs[i]? = some d → (enumD xs k)[i]? = some (.tuple [.int ((k + i : Nat) : Int), d])
  | x :: r, k, 0, d, h => by simp at h; subst h; simp [enumD]
  | x :: r, k, i + 1, d, h => by
    have h' := enumD_get r (k + 1) i d (by simpa using h)
    unfold enumD
    rw [List.getElem?_cons_succ, h']
    congr 5
    omega
  | [], _, _, _, h => by simp at h
section
variable {X : Cx} {Y : Cy} {tg e : Expr} {wa : EW} {pos p tpos : Pos} {K : PySem.W.Frag} {B H : Hp}
theorem yield_pair {Z : Res} {xs : List PyData} {vs : List V} {B B1 H1 H2 : Hp} {v : V} {i : Nat} (hd : DaAll K B vs xs) (s : Sub B B1) (w : Wf Z B1 H1) (hi : i < xs.length)
    (y : ∃ T x, v = .ref T ∧ H1 T = none ∧ H2 = upd H1 T (.tup [.int (i : Nat), x]) ∧ vs[i]? = some x) : ∃ B2 d, Ext Z B1 H1 B2 H2 ∧ Wf Z B2 H2 ∧ (enumD xs 0)[i]? = some d ∧ Da K B2 v d := by
  obtain ⟨T, x, rfl, hT, rfl, hx⟩ := y
  obtain ⟨d, h1, h2⟩ := hd.getV hx
  refine ⟨_, _, Ext.new w hT, w.new hT, enumD_get xs 0 i d h1, ?_⟩
  have e0 : ((0 + i : Nat) : Int) = (i : Int) := by omega
  rw [e0]
  exact .tup upd_same (.cons (.int _) (.cons ((h2.mono s).mono (Sub.new (w.bh.free hT))) .nil))
def wEnum (wa : EW) : IW := fun en Q => wa en fun x => seqF (asL x) fun xs => onD x fun _ => Q (enumD xs 0)
theorem di_enum {elts : List Expr} {kk : Nat} {p0 : Pos} (hg : Gl X "enumerate") (hm : X.mg "enumerate" = none) (ha : DE X Y e wa) (hs : starEach [e] X.env = [(false, eval e X.env)] := by rfl) : DI X Y (.Tuple elts kk tpos) (.Call (.Name "enumerate" p0) [e] [] pos) (wEnum wa) := by
  refine ⟨⟨fun pins s σ H R I ⟨en, B, J, h⟩ => ?_⟩, fun en Q Q' i h => ha.mono en _ _ (fun x h => seqF_mono h fun _ h => onD_mono h fun _ h => i _ h) h⟩
  have hpa : PA X [e] (tCons (tD X.K Y wa) tNil) := pa_cons ha.pe pa_nil hs
  have boot : bootBuiltins "enumerate" = some (.type "enumerate") := by decide +kernel
  refine PyProof.Rows.Call_ (ld_blt I hg hm boot (PyProof.Rows.callWith_type1 (thn (hpa.run pos pins s σ H (fun vs H1 => ∃ v, vs = [v] ∧ ((∃ a ws, v = .ref a ∧ SqL X.K H1 a ws ∧ R (Ite X.K a) H1) ∨ ∃ a ws, v = .ref a ∧ SqT X.K H1 a ws ∧ R (Iet X.K a) H1)) I ?_) fun us s1 ⟨vs, H1, I1, r1, q1⟩ => ?_) hs rfl))
  · refine ⟨en, B, J, ha.mono en _ _ (fun x h v B' H' e w s => ⟨v, rfl, ?_⟩) h⟩
    cases x with
    | o u => exact h.elim
    | p u => exact h.elim
    | l xs => exact (show False from h).elim
    | d x =>
      cases s <;> try exact h.elim
      · rename_i hp hd
        refine .inl ⟨_, _, rfl, .of (w.bh _ _ hp), h _ _ _ e w ⟨fun i B1 H1 s1 w1 hi => ?_, fun B1 H1 s1 w1 => ?_, fun i B1 H1 v H2 s1 w1 hi y => ?_⟩⟩
        · rw [enumD_len, ← hd.length] at hi
          exact ⟨_, _, .of (w1.bh _ _ (s1 _ _ hp)), List.getElem?_eq_getElem hi⟩
        · exact ⟨_, .of (w1.bh _ _ (s1 _ _ hp)), by rw [enumD_len, hd.length]; exact Nat.le_refl _⟩
        · obtain ⟨T, x, e1, hT, e2, hx⟩ := y
          exact yield_pair hd s1 w1 (by rw [enumD_len] at hi; exact hi) ⟨T, x, e1, hT, e2, hx _ (.of (w1.bh _ _ (s1 _ _ hp)))⟩
      · rename_i hp hd
        refine .inr ⟨_, _, rfl, SqT.of (w.bh _ _ hp), h _ _ _ e w ⟨fun i B1 H1 s1 w1 hi => ?_, fun B1 H1 s1 w1 => ?_, fun i B1 H1 v H2 s1 w1 hi y => ?_⟩⟩
        · rw [enumD_len, ← hd.length] at hi
          exact ⟨_, _, SqT.of (w1.bh _ _ (s1 _ _ hp)), List.getElem?_eq_getElem hi⟩
        · exact ⟨_, SqT.of (w1.bh _ _ (s1 _ _ hp)), by rw [enumD_len, hd.length]⟩
        · obtain ⟨T, x, e1, hT, e2, hx⟩ := y
          exact yield_pair hd s1 w1 (by rw [enumD_len] at hi; exact hi) ⟨T, x, e1, hT, e2, hx _ (SqT.of (w1.bh _ _ (s1 _ _ hp)))⟩
  · obtain ⟨v, ev, k⟩ := q1
    subst ev
    have fp2 : ∀ b ∈ [s1.heap.objs.size + 1, s1.heap.objs.size], s1.heap.objs.size ≤ b := fun b hb => by
      have e' : b = s1.heap.objs.size + 1 ∨ b = s1.heap.objs.size := by simpa using hb
      rcases e' with z | z
      · rw [z]; exact Nat.le_add_right _ _
      · rw [z]; exact Nat.le_refl _
    rcases k with ⟨a, ws, rfl, hq, q⟩ | ⟨a, ws, rfl, hq, q⟩
    · cases r1 with
      | cons r rr =>
        cases rr
        cases r
        obtain ⟨its, rv, p', hz⟩ := I1.list hq
        refine call_enumerate_list p'.isList fun h' he hit hsz hk => wpAny_pyIter_enum he ?_
        have I2 : Inv X pins σ H1 { s1 with heap := h' } := I1.kept (t' := s1.toks) hk
        exact ⟨s1.heap.objs.size + 1, [s1.heap.objs.size + 1, s1.heap.objs.size], _, _, H1, rfl, I2, turn_enum a (s1.heap.objs.size + 1) s1.heap.objs.size, ⟨⟨.none, he⟩, hit, Nat.succ_ne_self _⟩, fun b hb => I1.fpOk (fp2 b hb) (I1.hok.fresh (fp2 b hb)), q⟩
    · cases r1 with
      | cons r rr =>
        cases rr
        cases r
        obtain ⟨its, rv, p', hz⟩ := I1.tuple hq
        have pt : s1.heap.IsTuple a its.toArray := p'
        have hlt : a < s1.heap.objs.size := p'.lt
        refine DL0.enum_begins1 (begins_tuple a its.toArray) pt fun h' he hit hsz hk => wpAny_pyIter_enum he ?_
        have I2 : Inv X pins σ H1 { s1 with heap := h' } := I1.kept (t' := s1.toks) hk
        exact ⟨s1.heap.objs.size + 1, [s1.heap.objs.size + 1, s1.heap.objs.size], _, _, H1, rfl, I2, turn_enumT a (s1.heap.objs.size + 1) s1.heap.objs.size (Nat.ne_of_lt hlt) (Nat.ne_of_lt (Nat.lt_succ_of_lt hlt)), ⟨⟨.none, he⟩, ⟨_, hit, rfl, rfl⟩, Nat.succ_ne_self _⟩, fun b hb => I1.fpOk (fp2 b hb) (I1.hok.fresh (fp2 b hb)), q⟩

/-! ### t[::k] -/
def stepF (x y : PyData) (Q : PyData → Prop) : Prop := match x, y with
  | .tuple xs, .int k => (k = 1 ∧ Q (.tuple xs)) ∨ (k = -1 ∧ Q (.tuple xs.reverse))
  | .list xs, .int k => k = -1 ∧ Q (.list xs.reverse)
  | _, _ => False
theorem stepF_mono {x y : PyData} {k k' : PyData → Prop} (h : stepF x y k) (i : ∀ d, k d → k' d) : stepF x y k' := by
  cases x <;> cases y <;> first | exact h.elim | exact h.imp (fun h => ⟨h.1, i _ h.2⟩) (fun h => ⟨h.1, i _ h.2⟩) | exact ⟨h.1, i _ h.2⟩
theorem stepF_int {x y : PyData} {Q : PyData → Prop} (h : stepF x y Q) : ∃ k, y = .int k := by
  cases x <;> cases y <;> first | exact h.elim | exact ⟨_, rfl⟩
def wStep (wa wb : EW) : EW := fun en Q => wa en fun x => wb en fun y => onD y fun dy => stepF (asL x) dy fun d => Q (.d d)
theorem de_step {b : Expr} {wb : EW} {p3 : Pos} (ha : DE X Y e wa) (hb : DE X Y b wb) (hsub : ∀ o i, subscripted (.Slice none none (some b) p3) false o i = operate [o, i] (getItem o i) := by intro _ _; with_unfolding_all rfl) : DE X Y (.Subscript e (.Slice none none (some b) p3) pos) (wStep wa wb) := by
  refine ⟨⟨fun pins s σ H Q I ⟨en, B, J, h⟩ => ?_⟩, fun en Q Q' i h => ha.mono en _ _ (fun x h => hb.mono en _ _ (fun y h => onD_mono h fun d h => stepF_mono h fun _ h => i _ h) h) h⟩
  refine PyProof.Rows.Subscript_ (thn (ha.pe.run pins s σ H (fun v H1 => ∃ x B1, Ext Y.Z B H B1 H1 ∧ Wf Y.Z B1 H1 ∧ SV X.K Y B1 H1 x v ∧ wb en fun y => onD y fun dy => stepF (asL x) dy fun d => ∀ v B' H', Ext Y.Z B H B' H' → Wf Y.Z B' H' → SV X.K Y B' H' (.d d) v → Q v H') I ⟨en, B, J, ha.mono en _ _ (fun x h v B' H' e w s => ⟨x, B', e, w, s, h⟩) h⟩) fun v s1 ⟨xv, H1, I1, r1, x, B1, e1, w1, sv1, q1⟩ => ?_)
  refine wpAny_Slice (thn (po_none.run pins s1 σ H1 (fun o H2 => o = none ∧ H2 = H1) I1 ⟨rfl, rfl⟩) fun vl s2 ⟨l, H2, I2, pl, el, e2⟩ => ?_)
  subst el e2
  refine thn (po_none.run pins s2 σ H2 (fun o H3 => o = none ∧ H3 = H2) I2 ⟨rfl, rfl⟩) fun vu s3 ⟨u, H3, I3, pu, eu, e3⟩ => ?_
  subst eu e3
  refine thn ((po_some hb.pe).run pins s3 σ H3 (fun o H4 => ∃ k B4, o = some k ∧ Ext Y.Z B1 H3 B4 H4 ∧ Wf Y.Z B4 H4 ∧ stepF (asL x) (.int k) fun d => ∀ v B' H', Ext Y.Z B H B' H' → Wf Y.Z B' H' → SV X.K Y B' H' (.d d) v → Q v H') I3 ⟨en, B1, J.ext e1 w1, hb.mono en _ _ (fun y h v B' H' e w s => ?_) q1⟩) fun vs s4 ⟨o, H4, I4, ps, k, B4, eo, e4, w4, q4⟩ => ?_
  · cases y <;> try exact h.elim
    rename_i d
    have h : stepF (asL x) d fun d => ∀ v B' H', Ext Y.Z B H B' H' → Wf Y.Z B' H' → SV X.K Y B' H' (.d d) v → Q v H' := h
    obtain ⟨k, rfl⟩ := stepF_int h
    cases s
    exact ⟨_, rfl, _, B', rfl, e, w, h⟩
  subst eo
  have I5 : Inv X pins σ H4 { s4 with heap := s4.heap.push { cls := .type "slice", data := .fields #[vl, vu, vs] } } := I4.kept (t' := s4.toks) fun b ob q => Heap.get?_push_of_some _ q
  have e14 := e1.trans J.wf w1 e4
  have sv4 := sv1.ext w1 J.w0 e4
  show wpAny (model X.prog X.w) X.A (PyProof.Rows.subscriptTail e (.Slice none none (some b) p3) v (.ref s4.heap.objs.size)) (EP X pins σ Q) X.xe { s4 with heap := s4.heap.push { cls := .type "slice", data := .fields #[vl, vu, vs] } }
  have isSl := Heap.IsSliceOf.new s4.heap vl vu vs
  have oneL : ∀ (ds : List PyData) (ws : List V) (p : Addr), xv = .ref p → SqL X.K H4 p ws → DaAll X.K B4 ws ds → asL x = .list ds → wpAny (model X.prog X.w) X.A (PyProof.Rows.subscriptTail e (.Slice none none (some b) p3) v (.ref s4.heap.objs.size)) (EP X pins σ Q) X.xe { s4 with heap := s4.heap.push { cls := .type "slice", data := .fields #[vl, vu, vs] } } := by
    intro ds ws p ex hq hd ea
    subst ex
    cases r1
    rw [ea] at q4
    obtain ⟨rfl, q4⟩ := q4
    obtain ⟨its, r, ht, hz⟩ := I5.list hq
    have hlen := r.length
    refine PyProof.Rows.tail_any (ops := [.ref p, .ref s4.heap.objs.size]) ht.isList.typeIs (PySem.slot_list_getitem.lookup) ?_ (hsub _ _)
    refine wpAny_getItem_list_slice ht.isList isSl pl pu ps (by decide) ?_ (by rw [List.size_toArray]; omega)
    rw [PySem.W.krv_pick]
    refine ⟨.ref _, _, I5.laid (t' := s4.toks) (o := .lst ws.reverse) (fun b ob q => Heap.get?_push_of_some _ q) (Nat.le_refl _) ⟨by rw [List.length_reverse]; exact hz, _, 0, r.reverse, Heap.get?_push_size _ rfl⟩, rfl, ?_⟩
    exact newL X.K (Q := Q) w4 (fun v B' H' e w s => q4 v B' H' (e14.trans J.wf w4 e) w s) hd.reverse (I5.hok.fresh (Nat.le_refl _))
  rcases sv4.noLater w4 with ⟨ds, ws, p, ex, hq, hd, ea⟩ | hd | ex
  · exact oneL ds ws p ex hq hd ea
  · generalize ea : asL x = dx at hd q4 oneL
    cases hd with
    | lst hp hd => exact oneL _ _ _ rfl (.of (w4.bh _ _ hp)) hd rfl
    | tup hp hd =>
      cases r1
      obtain ⟨its, r, ht, hz⟩ := I5.tuple (SqT.of (w4.bh _ _ hp))
      have hlen := r.length
      rcases q4 with ⟨rfl, q4⟩ | ⟨rfl, q4⟩
      · refine PyProof.Rows.tail_any (ops := [.ref _, .ref s4.heap.objs.size]) ht.typeIs (PyProof.Rows.slot_tuple_getitem.lookup) ?_ (hsub _ _)
        refine DL0.getItem_tuple_one ht isSl pl pu ps ?_
        exact ⟨.ref _, _, I5, rfl, here X.K (Q := Q) w4 (fun v B' H' e w s => q4 v B' H' (e14.trans J.wf w4 e) w s) (.tup hp hd)⟩
      · refine PyProof.Rows.tail_any (ops := [.ref _, .ref s4.heap.objs.size]) ht.typeIs (PyProof.Rows.slot_tuple_getitem.lookup) ?_ (hsub _ _)
        refine DL0.getItem_tuple_rev ht isSl pl pu ps ?_ (by rw [List.size_toArray]; omega)
        refine ⟨.ref _, _, I5.laid (t' := s4.toks) (o := .tup _) (fun b ob q => Heap.get?_push_of_some _ q) (Nat.le_refl _) ⟨by rw [List.length_reverse]; exact hz, _, r.reverse, ⟨_, Heap.get?_push_size _ rfl, rfl, 0, rfl⟩⟩, rfl, ?_⟩
        exact newT X.K (Q := Q) w4 (fun v B' H' e w s => q4 v B' H' (e14.trans J.wf w4 e) w s) hd.reverse (I5.hok.fresh (Nat.le_refl _))
    | _ => exact q4.elim
  · rw [ex] at q4
    exact q4.elim
end
end DL

set_option maxRecDepth 100000
set_option maxHeartbeats 2000000
namespace DL
open PySem L2
section
variable {X : Cx} {Y : Cy} {a b c e : Expr} {wa wb wc : EW} {pos p : Pos} {K : PySem.W.Frag} {B H : Hp}
/-! ### -n, powers, shifts, not by truth -/
def negF : F1 := fun x Q => match x with
  | .int i => Q (.int (-i))
  | _ => False
def wNeg (wa : EW) : EW := fun en Q => wa en fun x => onD x fun d => negF d fun d => Q (.d d)
theorem m_neg : Mono1 negF := fun x Q Q' i h => by
  cases x <;> first | exact h.elim | exact i _ h
theorem de_neg (ha : DE X Y a wa) : DE X Y (.UnaryOp .USub a pos) (wNeg wa) := by
  refine ⟨peW (pe_un un_neg ha.pe) fun σ H Q ⟨en, B, I, h⟩ => ⟨en, B, I, ha.mono en _ _ (fun x h v B' H' e w s => ?_) h⟩, fun en Q Q' i h => ha.mono en _ _ (fun _ h => onD_mono h fun _ h => m_neg _ _ _ (fun _ h => i _ h) h) h⟩
  cases x <;> try exact h.elim
  rename_i d
  cases d <;> try exact h.elim
  cases s
  exact ⟨_, rfl, h _ _ _ e w (.int _)⟩
def powF : F2
  | .int i, .int j, Q => CPow i j ∧ Q (.int (i ^ j.toNat))
  | _, _, _ => False
def shlF : F2
  | .int i, .int j, Q => CPow i j ∧ Q (.int (i * 2 ^ j.toNat))
  | _, _, _ => False
theorem m_pow : Mono2 powF := fun x y Q Q' i h => by
  cases x <;> cases y <;> first | exact h.elim | exact ⟨h.1, i _ h.2⟩
theorem m_shl : Mono2 shlF := fun x y Q Q' i h => by
  cases x <;> cases y <;> first | exact h.elim | exact ⟨h.1, i _ h.2⟩
theorem o_pow : OpD X Y (binaryOp .Pow) powF := o_intC op_pow (k := fun i j => .int (i ^ j.toNat)) (fun _ _ _ => .int _) fun x y Q h => by
  cases x <;> cases y <;> first | exact h.elim | exact ⟨_, _, rfl, rfl, h⟩
theorem o_shl : OpD X Y (binaryOp .LShift) shlF := o_intC op_shl (k := fun i j => .int (i * 2 ^ j.toNat)) (fun _ _ _ => .int _) fun x y Q h => by
  cases x <;> cases y <;> first | exact h.elim | exact ⟨_, _, rfl, rfl, h⟩
def wNotV (wa : EW) : EW := fun en Q => wa en fun x => truV x fun b => Q (.d (.bool (!b)))
theorem truV_run {x : DV} {v : V} {P : Bool → Prop} (w : Wf Y.Z B H) (s : SV K Y B H x v) (h : truV x P) : ∃ k, TruV K v H k ∧ P k := by
  cases x with
  | o _ => exact h.elim
  | p _ => exact h.elim
  | l xs =>
    obtain ⟨p, vs, rfl, hp, _, _, hd⟩ := s
    exact ⟨_, .inl ⟨vs, .of hp, rfl⟩, by rw [hd.isEmpty]; exact h⟩
  | d x =>
    cases s with
    | non => exact ⟨_, rfl, h⟩
    | bl b => exact ⟨_, rfl, h⟩
    | int i => exact ⟨_, rfl, h⟩
    | str y => exact ⟨_, ⟨h.1, rfl⟩, h.2⟩
    | lst hp hd => exact ⟨_, .inl ⟨_, .of (w.bh _ _ hp), rfl⟩, by rw [hd.isEmpty]; exact h⟩
    | tup hp hd => exact ⟨_, .inr (.inl ⟨_, SqT.of (w.bh _ _ hp), rfl⟩), by rw [hd.isEmpty]; exact h⟩
theorem de_notT (ha : DE X Y a wa) : DE X Y (.UnaryOp .Not a pos) (wNotV wa) := by
  refine ⟨peW (pe_notT ha.pe) fun σ H Q ⟨en, B, I, h⟩ => ⟨en, B, I, ha.mono en _ _ (fun x h v B' H' e w s => ?_) h⟩, fun en Q Q' i h => ha.mono en _ _ (fun _ h => truV_mono h fun _ h => i _ h) h⟩
  obtain ⟨k, h1, h2⟩ := truV_run w s h
  exact ⟨k, h1, h2 _ _ _ e w (.bl _)⟩

/-! ### a, b, .. = e; a, b = e, f -/
def wUnp (g : Tg) (wa : EW) : SW := fun D en => wa en fun x => onD x fun d => match g.bind d en with
  | some en' => D.nx en'
  | none => False
theorem ds_unp {g : Tg} {tg : Expr} (hg : DG X tg g) (ha : DE X Y e wa) (hs : swapsWithSole [tg] e pos.line X.env = pure false := by rfl) (hw : swappedStores [tg] e X.env = pure none := by rfl) (h1 : List.map (fun x => x.snd) (assignEach [tg] X.env) = [assign tg X.env] := by rfl) : DS X Y (.Assign [tg] e pos) (wUnp g wa) := by
  refine ⟨psW (ps_asg ha.pe hg.pg hs hw (h1 := h1)) fun D σ H ⟨en, B, I, h⟩ => ⟨en, B, I, ha.mono en _ _ (fun x h v B' H' e w s => ?_) h⟩, fun en D D' l h => ha.mono en _ _ (fun x h => onD_mono h fun d h => ?_) h⟩
  · cases x <;> try exact h.elim
    rename_i d
    have h : match g.bind d en with
      | some en' => (ends X.K Y B D).nx en'
      | none => False := h
    split at h
    · rename_i en' q
      exact tg_run g v d en en' σ B' H' _ (I.ext e w) s q fun σ' I' _ => h σ' B' H' e.b I'
    · exact h.elim
  · split at h
    · exact l.nx _ h
    · exact h.elim
def wPar (i j : Nat) (ws : List EW) : SW := fun D en => wArgs ws en fun xs => match xs with
  | [x, y] => noL x ∧ noL y ∧ D.nx ((en.set i (some x)).set j (some y))
  | _ => False
theorem ds_par (i j : Nat) {x y : Str} {px py pt : Pos} {kt k2 pt2} {ws : List EW} (hN : X.N.Nodup) (ha : DA X Y [a, b] ws) (hc : X.calm = true := by rfl) (hi : X.N[i]? = some x := by rfl) (hj : X.N[j]? = some y := by rfl) (hij : i ≠ j := by decide)
    (hx : X.env.scope.names.lookup x = some .local := by rfl) (hy : X.env.scope.names.lookup y = some .local := by rfl)
    (hw : swappedStores [.Tuple [.Name x px, .Name y py] kt pt] (.Tuple [a, b] k2 pt2) X.env = pure (some [x, y]) := by rfl)
    (hs : swapsWithSole [.Tuple [.Name x px, .Name y py] kt pt] (.Tuple [a, b] k2 pt2) pos.line X.env = pure false := by rfl) :
    DS X Y (.Assign [.Tuple [.Name x px, .Name y py] kt pt] (.Tuple [a, b] k2 pt2) pos) (wPar i j ws) := by
  refine ⟨psW (ps_par hc hN hi hj hij hx hy ha.pa hw hs) fun D σ H ⟨en, B, I, h⟩ => ⟨en, B, I, ha.mono en _ _ (fun xs h vs B' H' e w s => ?_) h⟩, fun en D D' l h => ha.mono en _ _ (fun xs h => ?_) h⟩
  · match xs, s, h with
    | [x, y], .cons s1 (.cons s2 .nil), h => exact ⟨_, _, rfl, h.2.2 _ B' H' e.b (((I.ext e w).putP s1 h.1).putP s2 h.2.1)⟩
  · match xs, h with
    | [x, y], h => exact ⟨h.1, h.2.1, l.nx _ h.2.2⟩
def wPass : SW := fun D en => D.nx en
theorem ds_pass : DS X Y (.Pass pos) wPass := ⟨psW ps_pass fun D σ H ⟨en, B, I, h⟩ => h σ B H (Sub.refl _) I, fun _ _ _ l h => l.nx _ h⟩

/-! ### x.extend(e) -/
def wExt (i : Nat) (wa : EW) : SW := fun D en => match slotOf en i with
  | some (.l xs) => wa en fun y => onD y fun d => match d with
    | .list ys => xs.length + ys.length ≤ sizeLine ∧ D.nx (en.set i (some (.l (xs ++ ys))))
    | _ => False
  | _ => False
theorem ds_extend (i : Nat) {x : Str} {p1 p2 p3 pos : Pos} (ha : DE X Y e wa) (hi : X.N[i]? = some x := by rfl) (hv : Vis X.env.scope x := by first | exact Or.inl rfl | exact Or.inr (Or.inl rfl) | exact Or.inr (Or.inr rfl)) (hd1 : (x == ("__debug__" : Str)) = false := by decide) (hd2 : (x == ("__classdict__" : Str)) = false := by decide)
    (hs : starEach [e] X.env = (false, eval e X.env) :: starEach [] X.env := by rfl) (hpl : (backTo p3 (starEach ([] : List Expr) X.env)).any (·.1) = false := by rfl)
    (hbase : attributeBase (.Name x p1) "extend" X.env (eval (.Name x p1) X.env) = eval (.Name x p1) X.env := by rfl)
    (hfew : ((backTo p3 (starEach (e :: []) X.env)).all (fun x => !x.1) && (backToKw p3 (keywordEach [] X.env)).all (fun x => x.1.isSome)
      && decide ((e :: ([] : List Expr)).length + ([] : List Keyword).length + (if ([] : List Keyword).isEmpty then 0 else 1) < 30)) = true := by rfl)
    (hline : (p2.endLine == p3.line) = true := by rfl)
    (hsw : swapsWith (.Call (.Attribute (.Name x p1) "extend" p2) [e] [] p3) none pos.line X.env = pure false := by rfl) : DS X Y (.Expr (.Call (.Attribute (.Name x p1) "extend" p2) [e] [] p3) pos) (wExt i wa) := by
  refine ⟨psW (ps_expr (pe_bm PySem.F.plainAttrs_list PySem.F.slot_list_extend PySem.F.type_list_extend mt_extend (pv i hi hv hd1 hd2) (pa_cons ha.pe pa_nil hs) hbase hfew hline hs hpl) hsw) fun D σ H ⟨en, B, I, h⟩ => ?_, fun en D D' l h => ?_⟩
  · unfold wExt at h
    split at h
    · rename_i xs hx
      have hy := slotOf_eq _ _ _ hx
      obtain ⟨p, hσ, vs, hp, hb, h0, hd⟩ := app_at I hy
      refine ⟨_, hσ, .inl ⟨rfl, vs, .of hp⟩, en, B, I, ha.mono en _ _ (fun y h v B' H' e w s => ?_) h⟩
      cases y <;> try exact h.elim
      rename_i d
      cases d <;> try exact h.elim
      have I' := I.ext e w
      obtain ⟨p', hσ', vs', hp', hb', h0', hd'⟩ := app_at I' hy
      rw [hσ] at hσ'; cases hσ'
      cases s with
      | lst hq hdq =>
        refine ⟨p, _, vs', _, rfl, rfl, hp', w.bh _ _ hq, by rw [hd'.length, hdq.length]; exact h.1, ?_⟩
        exact h.2 _ B' _ e.b (I'.chgL (List.getElem?_eq_some_iff.mp hy).1 hσ hy hb' h0' (hd'.append hdq))
    · exact h.elim
  · unfold wExt at h ⊢
    split at h
    · refine ha.mono en _ _ (fun y h => onD_mono h fun d h => ?_) h
      cases d <;> first | exact h.elim | exact ⟨h.1, l.nx _ h.2⟩
    · exact h.elim
end

/-! ### isinstance(e, T), T a built-in class -/
def tyD : PyData → Option String
  | .none => some "NoneType"
  | .bool _ => some "bool"
  | .int _ => some "int"
  | .str _ => some "str"
  | .list _ => some "list"
  | .tuple _ => some "tuple"
  | .dict _ => none
def wIsi (ty : String) (wa : EW) : EW := fun en Q => wa en fun x => onD x fun d => match (tyD d).bind fun t => kitB t ty with
  | some b => Q (.d (.bool b))
  | none => False
section
variable {X : Cx} {Y : Cy} {e : Expr} {wa : EW} {pos p : Pos} {K : PySem.W.Frag} {B H : Hp}
theorem tyX_tup {a : Addr} {xs : List V} (h : SqT K H a xs) : TyX K H (.ref a) (.type "tuple") := by
  rcases h with (h | ⟨o, h⟩) | h
  · exact .base (.tup h)
  · exact .fTuple h
  · obtain ⟨o, its, n, h1, h2, _⟩ := h
    exact .kTuple h1 h2
theorem Da.ty {v : V} {d : PyData} {t : String} (s : Sub B H) (h : Da K B v d) (e : tyD d = some t) : TyX K H v (.type t) := by
  cases h <;> cases e
  · exact .base .non
  · exact .base (.bl _)
  · exact .base (.int _)
  · exact .base (.str _)
  · rename_i hp _; exact .base (.lst (s _ _ hp))
  · rename_i hp _; exact tyX_tup (.of (s _ _ hp))
theorem de_isi {ty : String} {z : Str} {p0 p1 : Pos} (hg : Gl X "isinstance") (hm : X.mg "isinstance" = none) (hgt : Gl X z) (hmt : X.mg z = none) (hbt : bootBuiltins z = some (.type ty)) (ha : DE X Y e wa)
    (hn : z ≠ "__name__" := by decide) (hdb : (z == ("__debug__" : Str)) = false := by decide)
    (hs : starEach [e, .Name z p1] X.env = (false, eval e X.env) :: starEach [.Name z p1] X.env := by rfl) (hs1 : starEach [.Name z p1] X.env = (false, eval (.Name z p1) X.env) :: starEach [] X.env := by rfl)
    (hpl : (backTo pos (starEach [.Name z p1] X.env)).any (·.1) = false := by rfl) : DE X Y (.Call (.Name "isinstance" p0) [e, .Name z p1] [] pos) (wIsi ty wa) := by
  have hty : PE X (.Name z p1) (tC (.ty ty)) := pe_bltn hgt hmt hbt rfl hn hdb
  refine ⟨peW (pe_callB call_isi hg hm (by decide +kernel) (pa_cons ha.pe (pa_cons hty pa_nil hs1) hs) (by decide) (by decide) hs hpl) fun σ H Q ⟨en, B, I, h⟩ => ⟨en, B, I, ha.mono en _ _ (fun x h v B' H' e w s => ?_) h⟩, fun en Q Q' i h => ha.mono en _ _ (fun x h => onD_mono h fun d h => ?_) h⟩
  · cases x <;> try exact h.elim
    rename_i d
    have h : match (tyD d).bind fun t => kitB t ty with
      | some b => ∀ v B' H', Ext Y.Z B H B' H' → Wf Y.Z B' H' → SV X.K Y B' H' (.d (.bool b)) v → Q v H'
      | none => False := h
    cases q : tyD d with
    | none => rw [q] at h; exact h.elim
    | some t =>
      rw [q] at h
      cases q2 : kitB t ty with
      | none => rw [Option.bind_some, q2] at h; exact h.elim
      | some b =>
        rw [Option.bind_some, q2] at h
        exact ⟨_, _, _, _, b, rfl, .ty ty, Da.ty w.bh s q, kit_ty q2, h _ _ _ e w (.bl _)⟩
  · split at h
    · exact i _ h
    · exact h.elim
end
end DL

set_option maxRecDepth 100000
set_option maxHeartbeats 2000000
namespace DL
open PySem L2

/-! ### [e for x in xs if .. for y in ys if ..] -/
def lcW2 (g : Tg) (wt : TW) (wi1 : IW) (g1 : Tg) (wt1 : TW) (we : EW) (vs1 : List Nat) : List PyData → En → List PyData → (List PyData → Prop) → Prop
  | [], _, acc, k => k acc
  | x :: xs, en, acc, k => match g.bind x en with
    | some en' => wt en' fun b => match b with
      | true => wi1 en' fun ys => lcW g1 wt1 we ys (wipeE en' vs1) acc fun acc' => lcW2 g wt wi1 g1 wt1 we vs1 xs en acc' k
      | false => lcW2 g wt wi1 g1 wt1 we vs1 xs en acc k
    | none => False
def wLc2 (wi : IW) (g : Tg) (wt : TW) (wi1 : IW) (g1 : Tg) (wt1 : TW) (we : EW) (vs vs1 : List Nat) : EW := fun en Q => wi en fun xs => lcW2 g wt wi1 g1 wt1 we vs1 xs (wipeE en vs) [] fun ds => Q (.d (.list ds))
theorem bindE_l : ∀ {is : List Nat} {ds : List PyData} {en en' : En} {j : Nat} {ys : List PyData}, bindE is ds en = some en' → en'[j]? = some (some (.l ys)) → en[j]? = some (some (.l ys))
  | [], [], _, _, _, _, h, q => by cases h; exact q
  | i :: is, d :: ds, en, en', j, ys, h, q => by
    have q2 := bindE_l (is := is) (ds := ds) h q
    rcases get_set q2 with ⟨_, e, _⟩ | ⟨_, e⟩
    · cases e
    · exact e
  | [], _ :: _, _, _, _, _, h, _ => by cases h
  | _ :: _, [], _, _, _, _, h, _ => by cases h
theorem bind_l {g : Tg} {d : PyData} {en en' : En} {j : Nat} {ys : List PyData} (h : g.bind d en = some en') (q : en'[j]? = some (some (.l ys))) : en[j]? = some (some (.l ys)) := by
  cases g with
  | nm i =>
    cases h
    rcases get_set q with ⟨_, e, _⟩ | ⟨_, e⟩
    · cases e
    · exact e
  | tp is =>
    cases d <;> try (cases h; done)
    exact bindE_l h q
theorem wipe_same {τ σ : L2.St} {vs : List Nat} (h : wipe τ vs = wipe σ vs) {j : Nat} (hj : j ∉ vs) : τ[j]? = σ[j]? := by
  rw [← wipe_keep (σ := τ) hj, h, wipe_keep hj]
theorem wipe_wipe (σ : L2.St) (us : List Nat) : wipe (wipe σ us) us = wipe σ us := by
  have aux : ∀ (us ws : List Nat), (∀ i ∈ us, i ∈ ws) → wipe (wipe σ us) ws = wipe σ ws := by
    intro us
    induction us with
    | nil => intro ws _; rfl
    | cons u r ih =>
      intro ws hw
      show wipe ((wipe σ r).set u none) ws = _
      rw [wipe_set (hw u (by simp)), ih ws fun i hi => hw i (List.mem_cons_of_mem _ hi)]
  exact aux us us fun _ h => h
section
variable {X : Cx} {Y : Cy} {g g1 : Tg} {pos : Pos}
/-- the inner loop -/
theorem lc_in {we : EW} {wt : TW} {vs : List Nat} {J : It} {xs : List PyData} {K : PySem.W.Frag} {en : En} {σ : L2.St} {B' H1 B2 H2 : Hp} {D : Addr} {k : List PyData → Prop} {Qd : Hp → Prop} {acc0 : List PyData}
    (I : SI K Y en σ B2 H2) (hD : H1 D = none) (h0 : Y.H0 D = none) (nD : ∀ (j : Nat) (ys : List PyData), en[j]? = some (some (.l ys)) → σ[j]? ≠ some (some (.ref D)))
    (w0 : Wf Y.Z B' H1) (G0 : Grow K Y en σ B' H1 D acc0 B2 H2) (wd : WalkD K Y.Z B2 J xs)
    (hv : ∀ i ∈ g.slots, i ∈ vs) (mt : ∀ (en : En) (Q Q' : Bool → Prop), (∀ x, Q x → Q' x) → wt en Q → wt en Q') (me : ∀ (en : En) (Q Q' : DV → Prop), (∀ x, Q x → Q' x) → we en Q → we en Q')
    (h : lcW g wt we xs (wipeE en vs) acc0 k) (hd : ∀ ds B1 H, Grow K Y en σ B' H1 D ds B1 H → Sub B2 B1 → k ds → Qd H) :
    ∃ W : Nat → Nat → Hp → Prop, (∃ m, W 0 m H2) ∧ ∀ i m H, W i m H →
      (J.stop i H ∧ Qd H) ∨ (J.go i H ∧ ∃ Nx : Hp → Prop, (∀ H', Nx H' → ∃ m', m' < m ∧ W (i + 1) m' H') ∧ ∀ x H', J.yld i H x H' → tgT K g x (wipe σ vs) H' fun σ2 H2 => wipe σ2 vs = wipe σ vs ∧ tDT K Y wt σ2 H2 fun b H3 =>
        if b = true then tD K Y we σ2 H3 fun y H4 => ∃ acc, H4 D = some (.lst acc) ∧ acc.length < sizeLine ∧ Nx (upd H4 D (.lst (acc ++ [y]))) else Nx H3) := by
  have hT : ¬ Y.Z.T D := fun t => I.w0.th D t h0
  let Pv : Nat → Hp → Prop := fun i H => ∃ B1 acc, Grow K Y en σ B' H1 D acc B1 H ∧ Sub B2 B1 ∧ SI K Y en σ B1 H ∧ lcW g wt we (xs.drop i) (wipeE en vs) acc k
  refine ⟨fun i m H => m = xs.length - i ∧ i ≤ xs.length ∧ Pv i H, ⟨xs.length, by simp, Nat.zero_le _, B2, acc0, G0, Sub.refl _, I, h⟩, ?_⟩
  rintro i m H ⟨rfl, hi, B1, acc, G, s1, I1, h1⟩
  by_cases hlt : i < xs.length
  · refine .inr ⟨wd.goes i B1 H s1 I1.wf hlt, Pv (i + 1), fun H' p' => ⟨xs.length - (i + 1), by omega, rfl, hlt, p'⟩, fun v H2' y => ?_⟩
    obtain ⟨B3, d, e2, w2, hdd, hvd⟩ := wd.yields i B1 H v H2' s1 I1.wf hlt y
    have ed : xs.drop i = d :: xs.drop (i + 1) := by
      have hx := (List.getElem?_eq_some_iff.mp hdd).2
      rw [List.drop_eq_getElem_cons hlt, hx]
    rw [ed] at h1
    unfold lcW at h1
    split at h1
    · rename_i en' hen
      have I1' := I1.ext e2 w2
      have I2 : SI K Y (wipeE en vs) (wipe σ vs) B3 H2' := I1'.wipe vs
      obtain ⟨us, hus, hacc⟩ := G.at_
      have hD2 : H2' D = some (.lst us) := e2.h D _ hus hT
      have hb2 : B3 D = none := e2.f D G.b (by rw [hus]; simp)
      refine tg_run g v d _ en' _ B3 H2' _ I2 hvd hen fun σ' I' hw => ⟨by rw [hw vs hv, wipe_wipe], en', B3, I', mt _ _ _ (fun b hq B4 H3 e3 w3 => ?_) h1⟩
      have e13 := (G.e.trans w0 G.w e2).trans w0 w2 e3
      have hD3 : H3 D = some (.lst us) := e3.h D _ hD2 hT
      have hb3 : B4 D = none := e3.f D hb2 (by rw [hD2]; simp)
      cases b with
      | false => exact iteF ⟨B4, acc, ⟨e13, w3, hb3, us, hD3, hacc.mono (e2.b.trans e3.b)⟩, (s1.trans e2.b).trans e3.b, I1'.ext e3 w3, hq⟩
      | true =>
        refine iteT ⟨en', B4, I'.ext e3 w3, me _ _ _ (fun y hq u B5 H4 e4 w4 s4 => ?_) hq⟩
        cases y <;> try exact hq.elim
        rename_i dy
        have hD4 : H4 D = some (.lst us) := e4.h D _ hD3 hT
        have hb4 : B5 D = none := e4.f D hb3 (by rw [hD3]; simp)
        have hacc4 := hacc.mono ((e2.b.trans e3.b).trans e4.b)
        refine ⟨us, hD4, by rw [hacc.length]; exact hq.1, B5, acc ++ [dy], ⟨⟨(e13.trans w0 w3 e4).b, fun a o ha ht => ?_, (e13.trans w0 w3 e4).f⟩, w4.chg hb4 hT, hb4, us ++ [u], upd_same, hacc4.append (.cons s4 .nil)⟩, ((s1.trans e2.b).trans e3.b).trans e4.b, ((I1'.ext e3 w3).ext e4 w4).chg hb4 h0 nD, hq.2⟩
        rw [upd_ne (by rintro rfl; rw [hD] at ha; cases ha)]
        exact (e13.trans w0 w3 e4).h a o ha ht
    · exact h1.elim
  · have e : i = xs.length := by omega
    subst e
    rw [List.drop_length] at h1
    exact .inl ⟨wd.stops B1 H s1 I1.wf, hd _ _ _ G s1 h1⟩
theorem lc2_mono {wi1 : IW} {wt wt1 : TW} {we : EW} {vs1 : List Nat} (mi : ∀ (en : En) (Q Q' : List PyData → Prop), (∀ x, Q x → Q' x) → wi1 en Q → wi1 en Q') (mt : ∀ (en : En) (Q Q' : Bool → Prop), (∀ x, Q x → Q' x) → wt en Q → wt en Q')
    (mt1 : ∀ (en : En) (Q Q' : Bool → Prop), (∀ x, Q x → Q' x) → wt1 en Q → wt1 en Q') (me : ∀ (en : En) (Q Q' : DV → Prop), (∀ x, Q x → Q' x) → we en Q → we en Q') :
    ∀ (xs : List PyData) (en : En) (acc : List PyData) (k k' : List PyData → Prop), (∀ ds, k ds → k' ds) → lcW2 g wt wi1 g1 wt1 we vs1 xs en acc k → lcW2 g wt wi1 g1 wt1 we vs1 xs en acc k'
  | [], en, acc, k, k', i, h => i _ h
  | x :: xs, en, acc, k, k', i, h => by
    unfold lcW2 at h ⊢
    split at h
    · refine mt _ _ _ (fun b h => ?_) h
      cases b with
      | true => exact mi _ _ _ (fun ys h => lc_mono mt1 me _ _ _ _ _ (fun _ h => lc2_mono mi mt mt1 me xs _ _ _ _ i h) h) h
      | false => exact lc2_mono mi mt mt1 me xs _ _ _ _ i h
    · exact h.elim
theorem lc2_run {we : EW} {wt wt1 : TW} {wi1 : IW} {vs vs1 : List Nat} {J : It} {xs : List PyData} {K : PySem.W.Frag} {en : En} {σ : L2.St} {B' H1 : Hp} {D : Addr} {k : List PyData → Prop} {Qd : Hp → Prop}
    (I : SI K Y en σ B' H1) (hD : H1 D = none) (wd : WalkE K Y.Z B' H1 J xs)
    (hv : ∀ i ∈ g.slots, i ∈ vs) (hv1 : ∀ i ∈ g1.slots, i ∈ vs1) (mi : ∀ (en : En) (Q Q' : List PyData → Prop), (∀ x, Q x → Q' x) → wi1 en Q → wi1 en Q') (mt : ∀ (en : En) (Q Q' : Bool → Prop), (∀ x, Q x → Q' x) → wt en Q → wt en Q')
    (mt1 : ∀ (en : En) (Q Q' : Bool → Prop), (∀ x, Q x → Q' x) → wt1 en Q → wt1 en Q') (me : ∀ (en : En) (Q Q' : DV → Prop), (∀ x, Q x → Q' x) → we en Q → we en Q')
    (h : lcW2 g wt wi1 g1 wt1 we vs1 xs (wipeE en vs) [] k) (hd : ∀ ds B1 H, Grow K Y en σ B' H1 D ds B1 H → k ds → Qd H) :
    ∃ W : Nat → Nat → Hp → Prop, (∃ m, W 0 m (upd H1 D (.lst []))) ∧ ∀ i m H, W i m H →
      (J.stop i H ∧ Qd H) ∨ (J.go i H ∧ ∃ Nx : Hp → Prop, (∀ H', Nx H' → ∃ m', m' < m ∧ W (i + 1) m' H') ∧ ∀ x H', J.yld i H x H' → tgT K g x (wipe σ vs) H' fun σ2 H2 => wipe σ2 vs = wipe σ vs ∧ tDT K Y wt σ2 H2 fun b H3 =>
        if b = true then iD K Y wi1 σ2 H3 fun J1 H4 => ∃ W1 : Nat → Nat → Hp → Prop, (∃ m, W1 0 m H4) ∧ ∀ j k H, W1 j k H →
          (J1.stop j H ∧ Nx H) ∨ (J1.go j H ∧ ∃ Nx1 : Hp → Prop, (∀ H', Nx1 H' → ∃ k', k' < k ∧ W1 (j + 1) k' H') ∧ ∀ x H', J1.yld j H x H' → tgT K g1 x (wipe σ2 vs1) H' fun σ3 H5 => wipe σ3 vs1 = wipe σ2 vs1 ∧ tDT K Y wt1 σ3 H5 fun b H6 =>
            if b = true then tD K Y we σ3 H6 fun y H7 => ∃ acc, H7 D = some (.lst acc) ∧ acc.length < sizeLine ∧ Nx1 (upd H7 D (.lst (acc ++ [y]))) else Nx1 H6)
        else Nx H3) := by
  have hB : B' D = none := I.wf.bh.free hD
  have h0 := fresh0 I hD
  have hT : ¬ Y.Z.T D := fun t => I.w0.th D t h0
  have nD : ∀ (j : Nat) (ys : List PyData), en[j]? = some (some (.l ys)) → σ[j]? ≠ some (some (.ref D)) := fun j ys g1 g2 => by
    obtain ⟨u, g3, q, us, rfl, hq, _⟩ := I.slot j _ g1
    rw [g3] at g2; cases g2
    rw [hD] at hq; cases hq
  let Pv : Nat → Hp → Prop := fun i H => ∃ B1 acc, Grow K Y en σ B' H1 D acc B1 H ∧ lcW2 g wt wi1 g1 wt1 we vs1 (xs.drop i) (wipeE en vs) acc k
  refine ⟨fun i m H => m = xs.length - i ∧ i ≤ xs.length ∧ Pv i H, ⟨xs.length, by simp, Nat.zero_le _, B', [], ⟨Ext.newH hD, I.wf.newH hD, hB, [], upd_same, .nil⟩, h⟩, ?_⟩
  rintro i m H ⟨rfl, hi, B1, acc, G, h1⟩
  by_cases hlt : i < xs.length
  · refine .inr ⟨wd.goes i B1 H G.e G.w hlt, Pv (i + 1), fun H' p' => ⟨xs.length - (i + 1), by omega, rfl, hlt, p'⟩, fun v H2 y => ?_⟩
    obtain ⟨B2, d, e2, w2, hdd, hvd⟩ := wd.yields i B1 H v H2 G.e G.w hlt y
    have ed : xs.drop i = d :: xs.drop (i + 1) := by
      have hx := (List.getElem?_eq_some_iff.mp hdd).2
      rw [List.drop_eq_getElem_cons hlt, hx]
    rw [ed] at h1
    unfold lcW2 at h1
    split at h1
    · rename_i en' hen
      have I2 : SI K Y (wipeE en vs) (wipe σ vs) B2 H2 := ((I.ext G.e G.w).ext e2 w2).wipe vs
      obtain ⟨us, hus, hacc⟩ := G.at_
      have hD2 : H2 D = some (.lst us) := e2.h D _ hus hT
      have hb2 : B2 D = none := e2.f D G.b (by rw [hus]; simp)
      refine tg_run g v d _ en' _ B2 H2 _ I2 hvd hen fun σ' I' hw => ⟨by rw [hw vs hv, wipe_wipe], en', B2, I', mt _ _ _ (fun b hq B3 H3 e3 w3 => ?_) h1⟩
      have e13 := (G.e.trans I.wf G.w e2).trans I.wf w2 e3
      have hD3 : H3 D = some (.lst us) := e3.h D _ hD2 hT
      have hb3 : B3 D = none := e3.f D hb2 (by rw [hD2]; simp)
      have nD' : ∀ (j : Nat) (ys : List PyData), en'[j]? = some (some (.l ys)) → σ'[j]? ≠ some (some (.ref D)) := fun j ys q1 q2 => by
        obtain ⟨q3, q4⟩ := wipeE_some (bind_l hen q1)
        have q5 : σ'[j]? = (wipe σ vs)[j]? := wipe_same (hw vs hv) q4
        rw [q5, wipe_keep q4] at q2
        exact nD j ys q3 q2
      cases b with
      | false => exact iteF ⟨B3, acc, ⟨e13, w3, hb3, us, hD3, hacc.mono (e2.b.trans e3.b)⟩, hq⟩
      | true =>
        refine iteT ⟨en', B3, I'.ext e3 w3, mi _ _ _ (fun ys hq J1 B4 H4 e4 w4 wd1 => ?_) hq⟩
        have e14 := e13.trans I.wf w3 e4
        have hD4 : H4 D = some (.lst us) := e4.h D _ hD3 hT
        have hb4 : B4 D = none := e4.f D hb3 (by rw [hD3]; simp)
        exact lc_in ((I'.ext e3 w3).ext e4 w4) hD h0 nD' I.wf ⟨e14, w4, hb4, us, hD4, hacc.mono ((e2.b.trans e3.b).trans e4.b)⟩ wd1 hv1 mt1 me hq fun ds B5 H5 G5 _ hk => ⟨B5, ds, ⟨G5.e, G5.w, G5.b, G5.at_⟩, hk⟩
    · exact h1.elim
  · have e : i = xs.length := by omega
    subst e
    rw [List.drop_length] at h1
    exact .inl ⟨wd.stops B1 H G.e G.w, hd _ _ _ G h1⟩
section
variable {elt tg iter tg1 iter1 : Expr} {ifs ifs1 : List Expr} {scope : Scope} {wt wt1 : TW} {we : EW} {wi wi1 : IW}
theorem de_lc2 (own : List (Str × Nat)) (vs1 : List Nat) (hN : X.N.Nodup) (hi : DIE X Y tg iter wi) (ok : blkC X.N X.env.scope scope own = true)
    (hg : ∀ (s : Shared) (H : Hp) (C : Addr) (cl : List (Str × Addr)) (fp : List Addr), DG (X.blk s H scope (compEnvC scope cl C X.env) fp) tg g)
    (ht : ∀ (s : Shared) (H : Hp) (C : Addr) (cl : List (Str × Addr)) (fp : List Addr), DTs (X.blk s H scope (compEnvC scope cl C X.env) fp) Y ifs wt)
    (hi1 : ∀ (s : Shared) (H : Hp) (C : Addr) (cl : List (Str × Addr)) (fp : List Addr), DI (X.blk s H scope (compEnvC scope cl C X.env) fp) Y tg1 iter1 wi1)
    (hg1 : ∀ (s : Shared) (H : Hp) (C : Addr) (cl : List (Str × Addr)) (fp : List Addr), DG (X.blk s H scope (compEnvC scope cl C X.env) fp) tg1 g1)
    (ht1 : ∀ (s : Shared) (H : Hp) (C : Addr) (cl : List (Str × Addr)) (fp : List Addr), DTs (X.blk s H scope (compEnvC scope cl C X.env) fp) Y ifs1 wt1)
    (he : ∀ (s : Shared) (H : Hp) (C : Addr) (cl : List (Str × Addr)) (fp : List Addr), DE (X.blk s H scope (compEnvC scope cl C X.env) fp) Y elt we)
    (hv : ∀ i ∈ g.slots, i ∈ own.map (·.2) := by decide) (hv1 : ∀ i ∈ g1.slots, i ∈ vs1 := by decide) (hvv : ∀ i ∈ vs1, i ∈ own.map (·.2) := by decide) (hc : X.calm = true := by rfl) (hs : ∀ x, foldedSetIterable iter X.env x = pure x := by intro _; rfl) (hs1 : ∀ env x, foldedSetIterable iter1 env x = pure x := by intro _ _; rfl) :
    DE X Y (.ListComp elt [⟨tg, iter, ifs, 0⟩, ⟨tg1, iter1, ifs1, 0⟩] scope pos) (wLc2 wi g wt wi1 g1 wt1 we (own.map (·.2)) vs1) := by
  obtain ⟨mt, me⟩ := monoLc ht he ⟨X⟩
  obtain ⟨mt1, _⟩ := monoLc ht1 he ⟨X⟩
  have mi := (hi1 X.s_0 X.H_0 0 [] []).mono
  refine ⟨peW (pe_lc2 (g := tgT X.K g) (tt := tDT X.K Y wt) (wi1 := iD X.K Y wi1) (g1 := tgT X.K g1) (tt1 := tDT X.K Y wt1) (te := tD X.K Y we) hc hN hi.pi (blkOk_by ok) hvv (fun s H C cl fp => (hg s H C cl fp).pg) (fun s H C cl fp => (ht s H C cl fp).pt) (fun s H C cl fp => (hi1 s H C cl fp).pi) (fun s H C cl fp => (hg1 s H C cl fp).pg) (fun s H C cl fp => (ht1 s H C cl fp).pt) (fun s H C cl fp => (he s H C cl fp).pe) hs hs1) fun σ H Q ⟨en, B, I, h⟩ => ⟨en, B, I, hi.mono en _ _ (fun xs h J B' H' e w wd D hD => ?_) h⟩, fun en Q Q' i h => hi.mono _ _ _ (fun xs h => lc2_mono mi mt mt1 me _ _ _ _ _ (fun _ h => i _ h) h) h⟩
  exact lc2_run (I.ext e w) hD wd hv hv1 mi mt mt1 me h fun ds B1 H2 G hq => by
    obtain ⟨B2, e2, w2, hd⟩ := grow_end I e w hD G
    exact hq _ _ _ e2 w2 hd
end
end
end DL

set_option maxRecDepth 100000
set_option maxHeartbeats 4000000
namespace DL0
open PySem
open Sem (wp)
open AutoSeq1 (wpAny_loadPart')
theorem tuple_mul0 (l : Addr) (items : Array Value) (n : Nat) (sl : Array (Option Value)) (dd : Option Addr) (u : Tok) (c1 : (items.isEmpty || (0 : Int) == 1) = false) :
    Meets (Builtin.«tuple.__mul__» ⟨[.ref l, .int 0 u], []⟩) (fun _ R s => s.heap.get? l = some { cls := .type "tuple", dict := dd, data := .seq items n, slots := sl } ∧
      R (.ok (.ret (Value.ref s.heap.objs.size))) { s with heap := s.heap.push { cls := Value.type "tuple", data := Data.seq #[] }, toks := s.toks }) :=
  .of_wp fun prog w A R s h => by
    obtain ⟨hp, g, d, tk, os⟩ := s
    obtain ⟨hl, h⟩ := h
    have f1 := AutoSeq1.idx_int
    wp_walk using wpAny_loadPart' hl
    repeat (first
      | (refine wpAny_ite_false (decide_eq_false (by rw [c1]; exact Bool.false_ne_true)) ?_; wp_walk using wpAny_loadPart' hl)
      | (refine wpAny_ite_true (decide_eq_true (by decide)) ?_; wp_walk using wpAny_loadPart' hl))
    exact ⟨_, rfl, h⟩
theorem tuple_mul1 (l : Addr) (items : Array Value) (n : Nat) (sl : Array (Option Value)) (dd : Option Addr) (u : Tok) :
    Meets (Builtin.«tuple.__mul__» ⟨[.ref l, .int 1 u], []⟩) (fun _ R s => s.heap.get? l = some { cls := .type "tuple", dict := dd, data := .seq items n, slots := sl } ∧
      R (.ok (.ret (Value.ref l))) s) :=
  .of_wp fun prog w A R s h => by
    obtain ⟨hp, g, d, tk, os⟩ := s
    obtain ⟨hl, h⟩ := h
    have f1 := AutoSeq1.idx_int
    have c1 : (items.isEmpty || (1 : Int) == 1) = true := by simp
    wp_walk using wpAny_loadPart' hl
    repeat (first
      | (refine wpAny_ite_true (decide_eq_true (by rw [c1])) ?_; wp_walk using wpAny_loadPart' hl)
      | (refine wpAny_ite_true (decide_eq_true (by decide)) ?_; wp_walk using wpAny_loadPart' hl))
    exact ⟨_, rfl, h⟩
end DL0
namespace DL
open PySem L2
section
variable {X : Cx} {Y : Cy}
/-- t * 0, t * 1 -/
def repF : F2
  | .tuple xs, .int k, Q => xs ≠ [] ∧ ((k = 0 ∧ Q (.tuple [])) ∨ (k = 1 ∧ Q (.tuple xs)))
  | _, _, _ => False
theorem m_rep : Mono2 repF := fun x y Q Q' i h => by
  cases x <;> cases y <;> first | exact h.elim | exact ⟨h.1, h.2.imp (fun h => ⟨h.1, i _ h.2⟩) (fun h => ⟨h.1, i _ h.2⟩)⟩
theorem o_rep : OpD X Y (binaryOp .Mult) repF := by
  intro pins s σ H x y v u Q I rx ry ⟨B, dx, dy, wf, hx, hy, h⟩
  cases hx <;> try (cases hy <;> exact h.elim)
  rename_i hp hd
  cases hy <;> try exact h.elim
  rename_i l vs ds k
  obtain ⟨hne, h⟩ := h
  cases rx
  obtain ⟨t, rfl⟩ := ry
  obtain ⟨its, r, ⟨⟨cls, dd, data, sl⟩, ho, hc, n, hdat⟩, hs⟩ := I.tuple (SqT.of (wf.bh _ _ hp))
  simp only at hc hdat
  subst hc hdat
  rcases h with ⟨rfl, h⟩ | ⟨rfl, h⟩
  · have hi : its.toArray.isEmpty = false := by
      cases its with
      | nil => cases r; cases hd; exact absurd rfl hne
      | cons a b => rfl
    refine wpAny_binaryOp_repeat_ref (T := "tuple") (U := "int") (by decide) ⟨_, ho, rfl⟩ (fun s' => typeIs_int s' 0 t) noFill_tuple_mul F.fills_int_mul F.slot_int_rmul repeat_tuple F.slot_int_index.lookup
      (call_meets F.slot_int_rmul (typeIs_int s 0 t) F.entry_int_rmul (F.args_int_rmul_2 _ _) (int_rmul_tuple 0 t l its.toArray n dd sl)
        ⟨ho, rfl, ⟨_, ho, rfl⟩, call_meets F.slot_tuple_mul ⟨_, ho, rfl⟩ F.entry_tuple_mul (F.args_tuple_mul_2 _ _) (DL0.tuple_mul0 l its.toArray n sl dd t (by rw [hi]; rfl)) ⟨ho, ?_⟩⟩)
    refine ⟨.ref s.heap.objs.size, _, I.laid (t' := s.toks) (o := .tup []) (fun b ob q => Heap.get?_push_of_some _ q) (Nat.le_refl _) ?_, rfl, newT X.K wf h .nil (I.hok.fresh (Nat.le_refl _))⟩
    exact ⟨by decide, [], .nil, PyProof.Rows.IsTup.new _ _⟩
  · refine wpAny_binaryOp_repeat_ref (T := "tuple") (U := "int") (by decide) ⟨_, ho, rfl⟩ (fun s' => typeIs_int s' 1 t) noFill_tuple_mul F.fills_int_mul F.slot_int_rmul repeat_tuple F.slot_int_index.lookup
      (call_meets F.slot_int_rmul (typeIs_int s 1 t) F.entry_int_rmul (F.args_int_rmul_2 _ _) (int_rmul_tuple 1 t l its.toArray n dd sl)
        ⟨ho, rfl, ⟨_, ho, rfl⟩, call_meets F.slot_tuple_mul ⟨_, ho, rfl⟩ F.entry_tuple_mul (F.args_tuple_mul_2 _ _) (DL0.tuple_mul1 l its.toArray n sl dd t) ⟨ho, ?_⟩⟩)
    exact ⟨.ref l, H, I, rfl, here X.K wf h (.tup hp hd)⟩
end

/-! ### {'a': e, ..}[k] -/
def mKeys (kws : List (Str × EW)) (K : PySem.W.Frag) (Y : Cy) : List (TE × TE) := kws.map fun p => (tC (.str p.1), tD K Y p.2)
def wPairs : List (Str × EW) → En → (List (Str × PyData) → Prop) → Prop
  | [], _, Q => Q []
  | p :: r, en, Q => p.2 en fun x => onD x fun d => wPairs r en fun ps => Q ((p.1, d) :: ps)
structure DPs (X : Cx) (Y : Cy) (pos : Pos) (keys : List (Option Expr)) (vals : List Expr) (kws : List (Str × EW)) : Prop where
  pps : PPs X pos keys vals (mKeys kws X.K Y)
  mono : ∀ (en : En) (Q Q' : List (Str × PyData) → Prop), (∀ x, Q x → Q' x) → wPairs kws en Q → wPairs kws en Q'
  keys_ : ∀ (en : En) (Q : List (Str × PyData) → Prop), wPairs kws en Q → wPairs kws en fun ps => ps.map (·.1) = kws.map (·.1) ∧ Q ps
section
variable {X : Cx} {Y : Cy} {pos p2 : Pos} {e k : Expr} {wa wk : EW} {keys : List (Option Expr)} {vals : List Expr} {kws : List (Str × EW)}
theorem pp_nil : DPs X Y pos [] [] [] := ⟨pps_nil, fun _ _ _ i h => i _ h, fun _ _ h => ⟨rfl, h⟩⟩
theorem pp_cons {x : Str} {j : Nat} (ha : DE X Y e wa) (hr : DPs X Y pos keys vals kws) : DPs X Y pos (some (.Constant (.str x) j p2) :: keys) (e :: vals) ((x, wa) :: kws) :=
  ⟨pps_cons pe_str ha.pe hr.pps, fun en Q Q' i h => ha.mono en _ _ (fun x h => onD_mono h fun d h => hr.mono en _ _ (fun _ h => i _ h) h) h,
   fun en Q h => ha.mono en _ _ (fun x h => onD_mono h fun d h => hr.mono en _ _ (fun ps ⟨e, q⟩ => ⟨by simp [e], q⟩) (hr.keys_ en _ h)) h⟩
inductive KVD (K : PySem.W.Frag) (B : Hp) : List (Str × PyData) → List (V × V) → Prop
  | nil : KVD K B [] []
  | cons {x : Str} {d : PyData} {v : V} {ps : List (Str × PyData)} {vs : List (V × V)} : Da K B v d → KVD K B ps vs → KVD K B ((x, d) :: ps) ((.str x, v) :: vs)
theorem KVD.mono {K : PySem.W.Frag} {B B' : Hp} (s : Sub B B') : ∀ {ps : List (Str × PyData)} {vs : List (V × V)}, KVD K B ps vs → KVD K B' ps vs
  | _, _, .nil => .nil
  | _, _, .cons h t => .cons (h.mono s) (KVD.mono s t)
theorem pairs_run : ∀ (kws : List (Str × EW)), (∀ p ∈ kws, ∀ (en : En) (Q Q' : DV → Prop), (∀ x, Q x → Q' x) → p.2 en Q → p.2 en Q') → ∀ {en : En} {σ : L2.St} {B H : Hp} {K : PySem.W.Frag} {Q : List (V × V) → Hp → Prop}, SI K Y en σ B H →
    wPairs kws en (fun ps => ∀ vs B' H', Ext Y.Z B H B' H' → Wf Y.Z B' H' → KVD K B' ps vs → Q vs H') → tPairs (mKeys kws K Y) σ H Q
  | [], _, en, σ, B, H, K, Q, I, h => h [] B H (Ext.refl _ _ _) I.wf .nil
  | (x, w) :: r, m, en, σ, B, H, K, Q, I, h => by
    show tC (.str x) σ H fun k1 H1 => tD K Y w σ H1 fun y H2 => tPairs (mKeys r K Y) σ H2 fun ps H3 => Q ((k1, y) :: ps) H3
    refine ⟨en, B, I, m (x, w) (by simp) en _ _ (fun y h v B1 H1 e1 w1 s1 => ?_) (show w en _ from h)⟩
    cases y <;> try exact h.elim
    refine pairs_run r (fun p hp => m p (by simp [hp])) (I.ext e1 w1) ?_
    have mr : ∀ (r : List (Str × EW)), (∀ p ∈ r, ∀ (en : En) (Q Q' : DV → Prop), (∀ x, Q x → Q' x) → p.2 en Q → p.2 en Q') → ∀ (Q Q' : List (Str × PyData) → Prop), (∀ x, Q x → Q' x) → wPairs r en Q → wPairs r en Q' := by
      intro r
      induction r with
      | nil => intro _ Q Q' i h; exact i _ h
      | cons p r ih => intro m Q Q' i h; exact m p (by simp) en _ _ (fun x h => onD_mono h fun d h => ih (fun q hq => m q (by simp [hq])) _ _ (fun _ h => i _ h) h) h
    refine mr r (fun p hp => m p (by simp [hp])) _ _ (fun ps h vs B2 H2 e2 w2 kv => ?_) h
    exact h _ B2 H2 (e1.trans I.wf w1 e2) w2 (.cons (Da.mono e2.b s1) kv)
@[irreducible] def lookS : List (Str × PyData) → Str → Option PyData
  | [], _ => none
  | (x, d) :: r, s => if x = s then some d else lookS r s
def keysOf (vs : List (V × V)) : List (Key × V) := vs.filterMap fun p => match p.1 with
  | .str x => some (.inr x, p.2)
  | _ => none
theorem kvd_look {K : PySem.W.Frag} {B : Hp} : ∀ {ps : List (Str × PyData)} {vs : List (V × V)}, KVD K B ps vs → ∀ (s : Str) (d : PyData), lookS ps s = some d → ∃ v, valV (keysOf vs) (Sum.inr s : Key) = some v ∧ Da K B v d
  | _, _, .nil, s, d, h => by unfold lookS at h; cases h
  | (x, d') :: ps, _, .cons (v := v) hd t, s, d, h => by
    unfold lookS at h
    by_cases e : x = s
    · rw [if_pos e] at h; cases h
      exact ⟨v, valV_pos (p := ((Sum.inr x : Key), v)) (by rw [e]), hd⟩
    · rw [if_neg e] at h
      obtain ⟨u, h1, h2⟩ := kvd_look t s d h
      refine ⟨u, ?_, h2⟩
      show valV (((Sum.inr x : Key), v) :: keysOf _) _ = _
      rw [valV_neg (by intro q; exact e (Sum.inr.inj q))]
      exact h1
theorem kvd_keys {K : PySem.W.Frag} {B : Hp} : ∀ {ps : List (Str × PyData)} {vs : List (V × V)}, KVD K B ps vs → vs = (keysOf vs).map (fun kv => (kV kv.1, kv.2)) ∧ (keysOf vs).map (·.1) = ps.map fun p => (Sum.inr p.1 : Key)
  | _, _, .nil => ⟨rfl, rfl⟩
  | _, _, .cons hd t => by
    obtain ⟨h1, h2⟩ := kvd_keys t
    exact ⟨congrArg (List.cons _) h1, congrArg (List.cons _) h2⟩
theorem merge_nodup : ∀ (more acc : List (Key × V)), ((acc ++ more).map (·.1)).Nodup → mergeK acc more = acc ++ more
  | [], acc, _ => by simp [mergeK]
  | p :: r, acc, h => by
    have hn : valV acc p.1 = none := by
      cases q : valV acc p.1 with
      | none => rfl
      | some v =>
        have h1 := valV_any p.1 acc
        rw [q] at h1
        obtain ⟨z, hz, hz2⟩ := List.any_eq_true.mp h1
        have e : z.1 = p.1 := of_decide_eq_true hz2
        rw [List.map_append, List.nodup_append] at h
        exact absurd e (h.2.2 _ (List.mem_map_of_mem hz) _ (by simp))
    show mergeK (putK acc p.1 p.2) r = _
    rw [putK_new _ hn, merge_nodup r (acc ++ [(p.1, p.2)]) (by simpa using h)]
    simp
def wMenu (kws : List (Str × EW)) (wk : EW) : EW := fun en Q => wPairs kws en fun ps => wk en fun y => onD y fun dy => match dy with
  | .str s => match lookS ps s with
    | some d => Q (.d d)
    | none => False
  | _ => False
theorem de_menu (hp : DPs X Y p2 keys vals kws) (hk : DE X Y k wk) (hu : X.A.units + 1 < cLine) (hnd : (kws.map (·.1)).Nodup) (hm : ∀ p ∈ kws, ∀ (en : En) (Q Q' : DV → Prop), (∀ x, Q x → Q' x) → p.2 en Q → p.2 en Q') (hs : NoSl k := by intro _ _; rfl)
    (hall : keys.all (·.isSome) = true := by rfl) (hl : keys.length = vals.length := by rfl) (h0 : keys ≠ [] := by intro z; cases z) (h15 : keys.length ≤ 15 := by decide) (hl2 : kws.length ≤ 15 := by decide) :
    DE X Y (.Subscript (.Dict keys vals p2) k pos) (wMenu kws wk) := by
  refine ⟨peW (pe_dget hu (pe_disp hp.pps hall hl h0 h15) hk.pe hs) fun σ H Q ⟨en, B, I, h⟩ p hn => ?_, fun en Q Q' i h => hp.mono en _ _ (fun ps h => hk.mono en _ _ (fun y h => onD_mono h fun d h => ?_) h) h⟩
  · have hb : B p = none := I.wf.bh.free hn
    have hp0 := fresh0 I hn
    have nD : ∀ (j : Nat) (ys : List PyData), en[j]? = some (some (.l ys)) → σ[j]? ≠ some (some (.ref p)) := fun j ys g1 g2 => by
      obtain ⟨u, g3, q, us, rfl, hq, _⟩ := I.slot j _ g1
      rw [g3] at g2; cases g2
      rw [hn] at hq; cases hq
    have hT : ¬ Y.Z.T p := fun t => I.w0.th p t hp0
    refine pairs_run kws hm (I.chg hb hp0 nD) (hp.mono en _ _ (fun ps ⟨ek, h⟩ vs B1 H1 e1 w1 kv => ?_) (hp.keys_ en _ h))
    have hp1 : H1 p = some (.dK []) := e1.h p _ upd_same hT
    have hb1 : B1 p = none := e1.f p hb (by rw [upd_same]; simp)
    obtain ⟨q1, q2⟩ := kvd_keys kv
    have hlen : (keysOf vs).length ≤ 15 := by
      have := congrArg List.length q2
      have e2 := congrArg List.length ek
      simp only [List.length_map] at this e2
      omega
    have hmer : mergeK [] (keysOf vs) = keysOf vs := merge_nodup _ [] (by
      rw [List.nil_append, q2]
      have : (ps.map fun p => (Sum.inr p.1 : Key)) = (ps.map (·.1)).map Sum.inr := by rw [List.map_map]; rfl
      rw [this, ek]
      exact List.Pairwise.map _ (fun a b hab z => hab (Sum.inr.inj z)) hnd)
    refine ⟨hp1, keysOf vs, q1, hlen, ?_⟩
    rw [hmer]
    have I1 : SI X.K Y en σ B1 H1 := (I.chg hb hp0 nD).ext e1 w1
    have I2 : SI X.K Y en σ B1 (upd H1 p (.dK (keysOf vs))) := I1.chg hb1 hp0 nD
    have ex2 : Ext Y.Z B H B1 (upd H1 p (.dK (keysOf vs))) := ⟨e1.b, fun a o ha ht => by
      have hne : a ≠ p := by rintro rfl; rw [hn] at ha; cases ha
      rw [upd_ne hne]
      exact e1.h a o (by rw [upd_ne hne]; exact ha) ht, fun a ha hna => by
      have hne : a ≠ p := by rintro rfl; exact hna hn
      exact e1.f a ha (by rw [upd_ne hne]; exact hna)⟩
    refine ⟨en, B1, I2, hk.mono en _ _ (fun y h v B2 H2 e2 w2 s2 => ?_) h⟩
    cases y <;> try exact h.elim
    rename_i dy
    cases dy <;> try exact h.elim
    rename_i sx
    cases s2
    have h : match lookS ps sx with
      | some d => ∀ v B' H', Ext Y.Z B H B' H' → Wf Y.Z B' H' → SV X.K Y B' H' (.d d) v → Q v H'
      | none => False := h
    cases ql : lookS ps sx with
    | none => rw [ql] at h; exact h.elim
    | some d =>
      rw [ql] at h
      obtain ⟨u, g1, g2⟩ := kvd_look kv sx d ql
      have hp2 : H2 p = some (.dK (keysOf vs)) := e2.h p _ upd_same hT
      have dg := DGet.k (k := (Sum.inr sx : Key)) hp2
      rw [g1] at dg
      exact ⟨p, u, rfl, dg, h u B2 H2 (ex2.trans I.wf I2.wf e2) w2 (Da.mono e2.b g2)⟩
  · cases d <;> try exact h.elim
    rename_i sx
    have h : match lookS ps sx with
      | some d => Q (.d d)
      | none => False := h
    show match lookS ps sx with
      | some d => Q' (.d d)
      | none => False
    cases ql : lookS ps sx with
    | none => rw [ql] at h; exact h.elim
    | some d => rw [ql] at h; exact i _ h
end
end DL

set_option maxRecDepth 100000
set_option maxHeartbeats 4000000
namespace PySem.W
open PyProof.Rows SeqAt
section
variable {prog : Program} {w : World} {A : Around} {E : Value → Shared → Prop} {s : Shared}
/-! ### sorted(t), t a tuple -/
theorem dl_collect_tup {l : Addr} {vs : List Value} {Q : List Value → Shared → Prop} (hl : s.heap.IsTuple l vs.toArray)
    (h : Q vs { s with heap := (s.heap.push (seqObj "list" #[] 0)).update s.heap.objs.size (Obj.mapSeq (· ++ vs.toArray)) }) (hsz : vs.length ≤ sizeLine) :
    wpAny (model prog w) A (collect (.ref l)) Q E s := by
  obtain ⟨o, ho, hc, n, hd⟩ := id hl
  unfold collect
  refine wpAny_bind (wpAny_runValue (codeAny_builtin entry_proto_collect' ?_))
  show wpAny _ _ (do again (.builtin "list.__iadd__" ⟨[← newList [], .ref l], []⟩)) _ _ s
  refine wpAny_bind (wpAny_newList (wpAny_pure ⟨Code.quiet_builtin _ (by decide +kernel), codeAny_builtin entry_list_iadd' ?_⟩))
  show wpAny _ _ (Builtin.List.listExtendWith (.ref s.heap.objs.size) (.ref l) (.ref s.heap.objs.size)) _ _ { s with heap := s.heap.push (seqObj "list" #[] 0) }
  unfold Builtin.List.listExtendWith
  have ho' : (s.heap.push (seqObj "list" #[] 0)).get? l = some o := Heap.get?_push_of_some _ ho
  refine wpAny_bind (wpAny_typeOf (T := "tuple") ⟨o, ho', hc⟩ ?_)
  have ht : (Value.type "tuple" == Value.type "tuple") = true := by rfl
  rw [if_pos (by rw [ht]; simp)]
  refine wpAny_bind (listItems_at ho' hd ?_)
  refine wpAny_bind (listItems_at (xs := #[]) (n := 0) (Heap.get?_push_size _ rfl) rfl ?_)
  rw [if_neg (by simp)]
  refine wpAny_bind (listUpdate_at (xs := #[]) (n := 0) (Heap.get?_push_size _ rfl) rfl ?_ (Nat.zero_le _) (by show (#[] ++ vs.toArray).size ≤ sizeLine + 1; simp only [Array.size_append, List.size_toArray, List.length_nil]; omega))
  refine wpAny_pure ?_
  show wpAny (model prog w) A (do
      let o ← load s.heap.objs.size
      match o.data with
      | .seq xs _ => pure xs.toList
      | _ => unsupported "internal:collect") Q E { s with heap := (s.heap.push (seqObj "list" #[] 0)).update s.heap.objs.size (Obj.mapSeq (· ++ vs.toArray)) }
  refine wpAny_bind (wpAny_load (get?_update_seq (Heap.get?_push_size _ rfl) _) ?_)
  show wpAny _ _ (pure ((#[] : Array Value) ++ vs.toArray).toList) Q E _
  rw [show ((#[] : Array Value) ++ vs.toArray).toList = vs by simp]
  exact wpAny_pure h
theorem dl_sorted_of_sortT {l : Addr} {vs : List Value} {kw : List (Str × Value)} {Q : Value → Shared → Prop} (hl : s.heap.IsTuple l vs.toArray) (hL : vs.length ≤ sizeLine) (ha1 : argsOk "sorted" ⟨[.ref l], kw⟩) (ha2 : ∀ x, argsOk "list.sort" ⟨[.ref x], kw⟩)
    (body : ∀ E' : Value → Shared → Prop, wpAny (model prog w) A.in1.in1 (Builtin.«list.sort» ⟨[.ref (s.heap.objs.size + 1)], kw⟩) (fun f s' => f = .done (.ret .none) ∧ Q (.ref (s.heap.objs.size + 1)) s') E' { s with heap := copyHeap s.heap vs }) :
    wpAny (model prog w) A (call (.builtin "sorted") [.ref l] kw) Q E s := by
  refine call_function_entry_kw kind_sorted plain_sorted entry_sorted ha1 ?_
  unfold Builtin.«sorted»
  refine wpAny_bind (m := checkCount "sorted" 1 1 _) (wpAny_pure ?_)
  refine wpAny_bind (dl_collect_tup hl ?_ hL)
  refine wpAny_bind (wpAny_newList ?_ hL)
  have hsz : ((s.heap.push (seqObj "list" #[] 0)).update s.heap.objs.size (Obj.mapSeq (· ++ vs.toArray))).objs.size = s.heap.objs.size + 1 := by
    rw [Heap.size_update, size_push']
  show wpAny _ _ _ _ _ { s with heap := copyHeap s.heap vs }
  rw [hsz]
  refine wpAny_bind (wpAny_holding (wpAny_call_entry_kw slot_list_sort ⟨_, copyHeap_at s.heap vs, rfl⟩ entry_list_sort ?body (ha2 _)))
  case body =>
    show wpAny (model prog w) A.in1.in1 (Builtin.«list.sort» ⟨[.ref (s.heap.objs.size + 1)], kw⟩) _ _ _
    refine wpAny_mono (body _) (fun f s' hf => ?_) fun _ _ e => e
    obtain ⟨rfl, hq⟩ := hf
    exact ⟨_, rfl, wpAny_pure ⟨_, rfl, hq⟩⟩
theorem dl_sorted_valsT {κ : PyProof.Rows.KeyKind} {l : Addr} {vs : List Value} {Q : Value → Shared → Prop} (hl : s.heap.IsTuple l vs.toArray) (S : SortsAt prog w A.in1.in1 { s with heap := sortingHeap (copyHeap s.heap vs) (s.heap.objs.size + 1) vs } κ vs) (hL : vs.length ≤ sizeLine)
    (h : Q (.ref (s.heap.objs.size + 1)) { s with heap := sortedAll s.heap vs (sortVals κ false vs vs).toArray }) : wpAny (model prog w) A (call (.builtin "sorted") [.ref l]) Q E s :=
  dl_sorted_of_sortT hl hL (args_sorted1 _) (fun _ => args_list_sort _) fun _ => list_sort_vals (s := { s with heap := copyHeap s.heap vs }) (copyHeap_at s.heap vs) S hL ⟨rfl, h⟩

/-! ### empty tuples are sorted -/
theorem dl_kind_empty {vs : List Value} {Q : SortKind → Shared → Prop} (h2 : 2 ≤ vs.length) (hT : ∀ v ∈ vs, ∃ a o n, v = .ref a ∧ s.heap.get? a = some o ∧ o.cls = .type "tuple" ∧ o.data = .seq #[] n) (h : Q oneType' s) :
    wpAny (model prog w) A (keyKind' vs.toArray) Q E s := by
  obtain ⟨v₁, v₂, rest, rfl⟩ : ∃ v₁ v₂ rest, vs = v₁ :: v₂ :: rest := by
    match vs, h2 with
    | [], h2 => simp at h2
    | [_], h2 => simp at h2
    | v₁ :: v₂ :: rest, _ => exact ⟨v₁, v₂, rest, rfl⟩
  have look : ∀ v ∈ v₁ :: v₂ :: rest, Looks (model prog w) s.heap (typeOf v) (.type "tuple") := fun v hv => by
    obtain ⟨a, o, n, rfl, ho, hc, hd⟩ := hT v hv
    exact hc ▸ (show Looks (model prog w) s.heap (typeOf (.ref a)) o.cls from (Looks.ld ho).andThen .now)
  rw [keyKind'_eq, List.mapM_toArray, map_eq_pure_bind]
  refine wpAny_bind (wpAny_bind (kas_mapM (r := none) _ (fun v hv Q' hq => ?_) (wpAny_pure ?_)))
  · obtain ⟨a, o, n, rfl, ho, hc, hd⟩ := hT v hv
    rw [kas_first_eq]
    refine wpAny_bind ((look _ hv).here ?_)
    rw [if_neg (by first | decide | simp)]
    refine wpAny_bind (listItems_at ho hd (wpAny_pure ?_))
    exact hq
  · rw [if_neg (by simp), if_neg (by simp)]
    rw [oneTypeOnly'_eq, List.mapM_toArray, map_eq_pure_bind]
    refine wpAny_bind (wpAny_bind (wpAny_bind (kas_mapM (r := Value.type "tuple") _ (fun v hv Q' hq => (look v hv).here hq) (wpAny_pure ?_))))
    have hall : ((List.map (fun _ => Value.type "tuple") (v₁ :: v₂ :: rest)).toArray.all fun x => x == Value.type "tuple") = true := by
      simp only [List.all_toArray, List.all_map, List.all_eq_true]
      intro _ _
      rfl
    have h0 : (List.map (fun _ => Value.type "tuple") (v₁ :: v₂ :: rest)).toArray[0]? = some (Value.type "tuple") := by simp
    rw [h0]
    simp only [hall, if_true]
    exact wpAny_pure (wpAny_pure h)
end

section
variable {prog : Program} {w : World} {A : Around} {E : Value → Shared → Prop} {s : Shared}
theorem dl_lt_empty {a b : Value} {as bs : List Addr} {Q : Bool → Shared → Prop} (ra : Reads s.heap a (.tuple []) as) (rb : Reads s.heap b (.tuple []) bs) (hu : A.units + 1 < cLine) (hq : Q false s) : wpAny (model prog w) A (oneLt' true a b) Q E s := by
  cases ra with
  | @tuple l o vs n _ _ h1 h2 h3 h4 =>
    cases rb with
    | @tuple l' o' vs' n' _ _ k1 k2 k3 k4 =>
      have n1 : vs.size = 0 := by simpa using SeqAt.ReadsAll.length _ _ _ h4
      have n2 : vs'.size = 0 := by simpa using SeqAt.ReadsAll.length _ _ _ k4
      have e1 : vs = #[] := Array.eq_empty_of_size_eq_zero n1
      have e2 : vs' = #[] := Array.eq_empty_of_size_eq_zero n2
      subst e1 e2
      obtain ⟨cls, dd, data, sl⟩ := o
      obtain ⟨cls2, dd2, data2, sl2⟩ := o'
      simp only at h2 h3 k2 k3
      subst h2 h3 k2 k3
      rw [oneLt'_eq]
      simp only [if_true]
      refine wpAny_bind (wpAny_cRoomFor (show A.units < cLine by omega) ?_)
      refine wpAny_bind (wpAny_callSpecialIfBound?_slot (T := "tuple") ⟨_, h1, rfl⟩ F.slot_tuple_lt (call_meets F.slot_tuple_lt ⟨_, h1, rfl⟩ F.entry_tuple_lt (F.args_tuple_lt_2 _ _) (SeqAt.tuple_ltAt l l' #[] #[] n n' dd dd2 sl sl2 (fun _ => true) (fun _ => true))
        ⟨h1, k1, fun j h => absurd h (by simp), fun j h => absurd h (by simp), ?_⟩))
      exact wpAny_truthy_bool hq
theorem dl_sortsAt_empty {vs : List Value} {ds : List PyData} (e : EachIs (fun v d => ∃ as, Reads s.heap v d as) vs ds) (hal : AllAlike ds) (hk : ∀ d ∈ ds, d = .tuple []) (hu : A.units + 1 < cLine) : SortsAt prog w A s (dataKind s.heap ds) vs := by
  refine ⟨fun v hv => ?_, oneType', ?_, fun h2 E Q hq => ?_⟩
  · obtain ⟨d, hd, as, r⟩ := e.left v hv
    exact ⟨_, dataKind_some hal hd r⟩
  · intro E x y a b Q ha hb hq
    obtain ⟨d, as, hd, ra, rfl⟩ := dataKind_inv ha
    obtain ⟨d', as', hd', rb, rfl⟩ := dataKind_inv hb
    rw [hk d hd] at ra hq
    rw [hk d' hd'] at rb hq
    rw [keyLt'_oneType]
    have hq' : Q (dataLt (.tuple []) (.tuple [])) s := hq
    rw [dataLt_tuple] at hq'
    exact dl_lt_empty ra rb hu (by simpa [keyToksAll, lex_irrefl] using hq')
  · refine dl_kind_empty h2 (fun v hv => ?_) hq
    obtain ⟨d, hd, as, r⟩ := e.left v hv
    rw [hk d hd] at r
    cases r with
    | @tuple l o vs n _ _ h1 h2 h3 h4 =>
      have n1 : vs.size = 0 := by simpa using SeqAt.ReadsAll.length _ _ _ h4
      have e1 : vs = #[] := Array.eq_empty_of_size_eq_zero n1
      subst e1
      exact ⟨_, _, _, rfl, h1, h2, h3⟩
/-- what can be sorted -/
def SortableE (ds : List PyData) : Prop := Sortable ds ∨ ∀ d ∈ ds, d = .tuple []
theorem dl_sortsAt {vs : List Value} {ds : List PyData} (e : EachIs (fun v d => ∃ as, Reads s.heap v d as) vs ds) (hal : AllAlike ds) (hk : SortableE ds) (hu : A.units + 1 < cLine) (hd : ∀ d, d ∈ ds → A.units + d.depth < cLine) : SortsAt prog w A s (dataKind s.heap ds) vs := by
  rcases hk with hk | hk
  · exact SortsAt.data e hal hk hd
  · exact dl_sortsAt_empty e hal hk hu
theorem dl_sorted {l : Addr} {vs : List Value} {ds : List PyData} {R : Value → PyData → Prop} {Q : Value → Shared → Prop} (hl : s.heap.IsList l vs.toArray ∨ s.heap.IsTuple l vs.toArray) (e : EachIs R vs ds) (er : EachIs (fun v d => ∃ as, Reads s.heap v d as) vs ds) (hal : AllAlike ds) (hk : SortableE ds) (hL : ds.length ≤ sizeLine)
    (hu : A.units + 3 < cLine) (hd : ∀ d, d ∈ ds → A.units + 2 + d.depth < cLine) (h : ∀ out, out.length = ds.length → EachIs R out (ds.mergeSort (dataLe false id)) → Q (.ref (s.heap.objs.size + 1)) { s with heap := sortedAll s.heap vs (List.toArray out) }) :
    wpAny (model prog w) A (call (.builtin "sorted") [.ref l]) Q E s := by
  have er' : EachIs (fun v d => ∃ as, Reads (sortingHeap (copyHeap s.heap vs) (s.heap.objs.size + 1) vs) v d as) vs ds := er.mono fun _ _ ⟨as, r⟩ => ⟨as, PyProof.Rows.Reads.keeps (fun _ _ => sorting_copy_old) r⟩
  have em : ds.map (id : PyData → PyData) = ds := by simp
  have S : SortsAt prog w A.in1.in1 { s with heap := sortingHeap (copyHeap s.heap vs) (s.heap.objs.size + 1) vs } (dataKind (sortingHeap (copyHeap s.heap vs) (s.heap.objs.size + 1) vs) (ds.map id)) vs := by
    rw [em]
    exact dl_sortsAt (s := { s with heap := sortingHeap (copyHeap s.heap vs) (s.heap.objs.size + 1) vs }) er' hal hk hu hd
  have fin := h _ (by rw [sortVals_length false rfl]; exact e.length) (sortVals_data (enc := id) false e er' (by rw [em]; exact hal))
  rcases hl with hl | hl
  · exact sorted_vals hl S (by rw [e.length]; exact hL) fin
  · exact dl_sorted_valsT hl S (by rw [e.length]; exact hL) fin
end
end PySem.W
namespace DL
open PySem L2
open PySem.W (EachIs)
section
variable {X : Cx} {Y : Cy} {K : PySem.W.Frag} {B H : Hp} {pins : List (Addr × Obj)} {σ : List (Option V)} {s : Shared}
def sortedF : F1 := fun x Q => match x with
  | .list xs => (PySem.W.AllAlike xs ∧ PySem.W.SortableE xs ∧ ∀ d ∈ xs, d.depth ≤ 60) ∧ Q (.list (xs.mergeSort (PySem.W.dataLe false id)))
  | .tuple xs => (PySem.W.AllAlike xs ∧ PySem.W.SortableE xs ∧ ∀ d ∈ xs, d.depth ≤ 60) ∧ Q (.list (xs.mergeSort (PySem.W.dataLe false id)))
  | _ => False
theorem m_sorted : Mono1 sortedF := fun x Q Q' i h => by
  cases x <;> first | exact h.elim | exact ⟨h.1, i _ h.2⟩
theorem each_both : ∀ {vs : List V} {ds : List PyData} {us : List Value}, DaAll K B vs ds → Vals vs us → EachIs (fun u d => ∃ v, RelV v u ∧ Da K B v d) us ds
  | _, _, _, .nil, .nil => .nil
  | _, _, _, .cons h t, .cons r rs => .cons ⟨_, r, h⟩ (each_both t rs)
theorem both_each : ∀ {us : List Value} {ds : List PyData}, EachIs (fun u d => ∃ v, RelV v u ∧ Da K B v d) us ds → ∃ vs, Vals vs us ∧ DaAll K B vs ds
  | _, _, .nil => ⟨[], .nil, .nil⟩
  | _, _, .cons ⟨v, r, h⟩ t => by
    obtain ⟨vs, h1, h2⟩ := both_each t
    exact ⟨v :: vs, .cons r h1, .cons h h2⟩
theorem b_sorted (hu : X.A.units + 64 < cLine) : BltD X Y (.builtin "sorted") (one sortedF) := by
  intro pins s σ H vs us Q I r ⟨B, xs, w, sv, h⟩
  obtain ⟨v, x, rfl, h, k⟩ := one_run sv w h
  have main : ∀ (a : Addr) (ys : List V) (ds : List PyData) (its : List Value), Vals ys its → DaAll X.K B ys ds → (s.heap.IsList a its.toArray ∨ s.heap.IsTuple a its.toArray) → its.length ≤ sizeLine →
      (PySem.W.AllAlike ds ∧ PySem.W.SortableE ds ∧ ∀ d ∈ ds, d.depth ≤ 60) → WD X.K Y B H Q (.list (ds.mergeSort (PySem.W.dataLe false id))) → us = [.ref a] → wpAny (model X.prog X.w) X.A (call (.builtin "sorted") us) (EP X pins σ Q) X.xe s := by
    intro a ys ds its rv hd hl hz hk hq eu
    subst eu
    have hn : its.length = ds.length := by rw [← rv.length]; exact hd.length
    have er : EachIs (fun v d => ∃ as, Reads s.heap v d as) its ds := (each_both hd rv).mono fun u d ⟨v, r, h⟩ => Dp.reads I d v u (h.mono w.bh).dp r
    refine PySem.W.dl_sorted hl (each_both hd rv) er hk.1 hk.2.1 (by rw [← hn]; exact hz) (by omega) (fun d hd => by have := hk.2.2 d hd; omega) fun out ho eo => ?_
    obtain ⟨vs, h1, h2⟩ := both_each eo
    obtain ⟨ep, he'⟩ := PyProof.Rows.sortedAll_at s.heap its out.toArray
    have hlen : vs.length ≤ sizeLine := by rw [h1.length, ho, ← hn]; exact hz
    refine ⟨.ref _, upd H (s.heap.objs.size + 1) (.lst vs), I.laid (t' := s.toks) (fun _ _ => PyProof.Rows.sortedAll_old) (Nat.le_succ _) ⟨hlen, out, ep, h1, by simpa using he'⟩, rfl, newL X.K w hq h2 (I.hok.fresh (Nat.le_succ _))⟩
  rcases k with ⟨ds, ys, p, rfl, hp, hd, rfl⟩ | hd | rfl
  · obtain ⟨its, rv, hl, hz⟩ := I.list hp
    exact main p ys ds its rv hd (.inl hl.isList) (by rw [← rv.length]; exact hz) h.1 h.2 (Vals.ref1 r)
  · cases hd <;> try exact h.elim
    · rename_i hp hd
      obtain ⟨its, rv, hl, hz⟩ := I.list (.of (w.bh _ _ hp))
      exact main _ _ _ its rv hd (.inl hl.isList) (by rw [← rv.length]; exact hz) h.1 h.2 (Vals.ref1 r)
    · rename_i hp hd
      obtain ⟨its, rv, pt, hz⟩ := I.tuple (SqT.of (w.bh _ _ hp))
      exact main _ _ _ its rv hd (.inr pt) (by rw [← rv.length]; exact hz) h.1 h.2 (Vals.ref1 r)
  · exact h.elim
end
end DL

set_option maxRecDepth 100000
set_option maxHeartbeats 2000000
namespace L2
open PySem PySem.Spec PyProof.Rows
/-! ### d.setdefault(y, z), tuple keys -/
section
variable {X : Cx} {pins : List (Addr × Obj)} {σ : St} {H : Hp} {s : Shared} {a b : Addr} {u r : Value} {d : V} {k : List Key} {A : Around} {E : Value → Shared → Prop}
theorem dl_setdT {kvs : List (List Key × V)} {Q : Value → Shared → Prop} (hu : A.units + 1 < cLine) (I : Inv X pins σ H s) (e : H a = some (.dT kvs)) (eb : H b = some (.tup (k.map kV))) (rd : RelV d r) (hl : kvs.length < sizeLine)
    (h1 : ∀ v, valV kvs k = some v → ∀ (w' : Value) (s' : Shared), Inv X pins σ H s' → RelV v w' → Q w' s') (h2 : valV kvs k = none → ∀ (w' : Value) (s' : Shared), Inv X pins σ (upd H a (.dT (putK kvs k d))) s' → RelV d w' → Q w' s') :
    wpAny (model X.prog X.w) A (call (.builtin "dict.setdefault") [.ref a, .ref b, r]) Q E s := by
  obtain ⟨z, hd, xs, rel, dd⟩ := dt_of I.hok e
  have hz : xs.length ≤ sizeLine := by rw [← Paired.length rel]; exact z
  have key := rel.val k
  refine call_setdefault_heap (hsz := hz) (tupleKind_room_in1 hu) (key_of I.hok eb) hd dd (fun p hp => ?_) fun hn h' dd' hs => ?_
  · rw [hp] at key
    cases q0 : valV kvs k with
    | none => rw [q0] at key; exact (show False from key).elim
    | some v0 => rw [q0] at key; exact h1 v0 q0 _ _ (I.tok _) key
  · rw [hn] at key
    cases q0 : valV kvs k with
    | some v0 => rw [q0] at key; exact (show False from key).elim
    | none =>
      have hl2 : (putK kvs k d).length ≤ sizeLine := by
        have := length_putK kvs k d
        omega
      obtain ⟨q, es, ep, hq, g2, g3, g4, _, g5⟩ := dd'
      refine h2 q0 _ _ (d_write I (by rw [e]; exact True.intro) hs ⟨q, hq⟩ ⟨hl2, hd, _, (rel.put k eb rd).keeps fun c ys ec => ?_, q, es, ep, hq, g2, g3, g4, g5⟩) rd
      rw [upd_ne (ne_of ec e (fun z => nomatch z))]
      exact ec
end
def tDSetdT (td ty tx : TE) : TE := fun σ H Q => td σ H fun x H1 => ∃ a, x = .ref a ∧ IsD H1 a ∧ ty σ H1 fun y H2 => tx σ H2 fun z H3 => ∃ (kvs : List (List Key × V)) (k : List Key) (b : Addr), H3 a = some (.dT kvs) ∧ y = .ref b ∧ H3 b = some (.tup (k.map kV)) ∧ kvs.length < sizeLine ∧
  (∀ v, valV kvs k = some v → Q v H3) ∧ (valV kvs k = none → Q z (upd H3 a (.dT (putK kvs k z))))
section
variable {X : Cx} {o e f : Expr} {td ty tx : TE} {apos cpos : Pos}
theorem pe_dsetdT (hu : X.A.units + 2 < cLine) (ho : PE X o td) (he : PE X e ty) (hf : PE X f tx) (m : M2 X o "setdefault" apos e f cpos) : PE X (.Call (.Attribute o "setdefault" apos) [e, f] [] cpos) (tDSetdT td ty tx) := by
  refine ⟨fun pins s σ H Q I h => ?_⟩
  refine wpAny_Call_method m.base m.few m.line PySem.F.plainAttrs_dict PySem.F.slot_dict_setdefault PySem.F.type_dict_setdefault (thn (ho.run pins s σ H _ I h) fun u s1 ⟨x, H1, I1, rx, a, ex, d, q1⟩ => ?_)
  subst ex
  obtain rfl : u = Value.ref a := rx
  obtain ⟨t1, t2, _⟩ := isD_at I1 d
  refine ⟨t1, t2, ?_⟩
  rw [m.trees]
  refine Calls.callWith_builtin rfl (Calls.evalArgs_plain (Calls.spliced_cons (thn (he.run pins s1 σ H1 _ I1 q1) fun iv s2 ⟨y, H2, I2, ry, q2⟩ =>
    Calls.spliced_cons (thn (hf.run pins s2 σ H2 _ I2 q2) fun fv s3 ⟨z, H3, I3, rz, kvs, k, b, ea, ey, eb, hl, q3, q4⟩ => Calls.spliced_nil ?_))))
  subst ey
  obtain rfl : iv = Value.ref b := ry
  exact dl_setdT (by omega) I3 ea eb rz hl (fun v hv w' s4 I4 rw' => ⟨v, _, I4, rw', q3 v hv⟩) fun hn w' s4 I4 rw' => ⟨z, _, I4, rw', q4 hn⟩
end
/-! ### for v in d.values(), tuple keys -/
def ItdT (d : Addr) (o : Obj) (kvs : List (List Key × V)) : It :=
  ⟨fun i H => H d = some (.frz o (.dT kvs)) ∧ i < kvs.length, fun i H x H' => H' = H ∧ ∃ k, kvs[i]? = some (k, x), fun i H => H d = some (.frz o (.dT kvs)) ∧ kvs.length ≤ i⟩
section
variable {X : Cx} {pins : List (Addr × Obj)} {σ : St} {H : Hp} {s : Shared} {d : Addr} {o : Obj}
theorem dl_frzT {kvs : List (List Key × V)} (I : Inv X pins σ H s) (h : H d = some (.frz o (.dT kvs))) :
    (d == sysModules) = false ∧ s.heap.get? d = some o ∧ o.ExactDict ∧ ∃ (es : Array DictEntry) (ep : Nat), o.data = .dict es ep ∧ es.size = kvs.length ∧
      ∀ (i : Nat) (k : List Key) (v : V), kvs[i]? = some (k, v) → ∃ (en : DictEntry), es[i]? = some en ∧ RelV v en.val := by
  obtain ⟨hd, z, hs, xs, pr, o', es, ep, ho, hx, hdt, he, _⟩ := I.hok d _ h
  rw [hd] at ho
  cases ho
  refine ⟨hs, hd, hx, es, ep, hdt, ?_, fun i k v e => ?_⟩
  · have l1 : es.size = xs.length := size_of_entries he
    have l2 : kvs.length = xs.length := Paired.length pr
    omega
  · obtain ⟨b, hb, e1, e2, e3⟩ := paired_get pr e
    have q := entry_at he i
    rw [hb] at q
    exact ⟨_, q, e3⟩
end
section
variable {P : Program} {w : World} {K : PySem.W.Frag} {tg : Expr} {d : Addr} {o : Obj} {es : Array DictEntry} {ep : Nat}
theorem turn_valsT {kvs : List (List Key × V)} (it : Addr) (hod : o.data = .dict es ep) : Turn P w K tg (ItdT d o kvs) [it] it (fun i h => h.IsValIter it d i kvs.length ep) where
  mem := by simp
  obj := fun i h st b hb => by
    have e : b = it := by simpa using hb
    subst e
    obtain ⟨oi, e, c, dd⟩ := st
    exact ⟨oi, e, fun v z => by rw [dd] at z; cases z⟩
  keep := fun i h h' st k => st.at fun oi e => k it (by simp) oi e
  item := by
    intro X hP hw hK hc i pins s σ H E I hf st hg
    subst hP hw hK
    obtain ⟨hd, hi⟩ := hg
    obtain ⟨f0, f1, f2, f3, f4, f5⟩ := hf it (by simp)
    obtain ⟨hs, hgd, hx, es', ep', hdt, hsz, ent⟩ := dl_frzT I hd
    obtain ⟨rfl, rfl⟩ := dict_ep hod hdt
    obtain ⟨⟨k, v⟩, hkv⟩ : ∃ p, kvs[i]? = some p := ⟨kvs[i], List.getElem?_eq_getElem hi⟩
    obtain ⟨en, hen, rv⟩ := ent i k v hkv
    rw [← hsz] at st
    obtain ⟨hlt, hget⟩ := Array.getElem?_eq_some_iff.mp hen
    refine wpAny_pyNext_values_item_raw st ⟨o, hgd, hx, hdt⟩ hlt fun h' st' sb => ?_
    have I1 : Inv X pins σ H { s with heap := h' } := I.turned (t' := s.toks) (fun b ob hb e => (sb.2 b hb).trans e) f0 f1 f3 f4 f5
    obtain ⟨oi, e, c, dd⟩ := id st'
    refine ⟨_, rfl, go_of (s := { s with heap := h' }) e c dd (by decide) ⟨v, H, I1, by rw [hget]; exact rv, ⟨rfl, k, hkv⟩, ?_, fun b hb => (hf b hb).1⟩⟩
    show h'.IsValIter it d (i + 1) kvs.length _
    rw [← hsz]
    exact st'
  done := by
    intro X hP hw hK hc i pins s σ H E I hf st hg
    subst hP hw hK
    obtain ⟨hd, hi⟩ := hg
    obtain ⟨f0, f1, f2, f3, f4, f5⟩ := hf it (by simp)
    obtain ⟨hs, hgd, hx, es', ep', hdt, hsz, ent⟩ := dl_frzT I hd
    obtain ⟨rfl, rfl⟩ := dict_ep hod hdt
    rw [← hsz] at st
    exact wpAny_pyNext_values_end_raw (I.ok.hd hc) st ⟨o, hgd, hx, hdt⟩ (by omega) fun h' eb => ⟨rfl, I.turned (t' := s.toks) (fun b ob hb e => eb b ob hb e) f0 f1 f3 f4 f5⟩
  self := fun A i s Q E st h => wpAny_pyIter_valiter st h
end
def iValsT (td : TE) : TI := fun σ H R => td σ H fun x H1 => ∃ d o kvs, x = .ref d ∧ H1 d = some (.frz o (.dT kvs)) ∧ R (ItdT d o kvs) H1
section
variable {X : Cx} {tg e : Expr} {td : TE} {apos cpos : Pos}
theorem pi_valuesT (he : PE X e td) (hbase : attributeBase e "values" X.env (eval e X.env) = eval e X.env := by rfl) (hline : (apos.endLine == cpos.line) = true := by rfl) : PI X tg (.Call (.Attribute e "values" apos) [] [] cpos) (iValsT td) := by
  refine ⟨fun pins s σ H R I h => ?_⟩
  refine wpAny_Call_method (T := "dict") (id := "dict.values") hbase rfl hline F.plainAttrs_dict F.slot_dict_values F.type_dict_values (thn (he.run pins s σ H _ I h) fun u s1 ⟨x, H1, I1, rx, d, o, kvs, ex, hd, q⟩ => ?_)
  subst ex
  obtain rfl : u = Value.ref d := rx
  obtain ⟨hs, hgd, hx, es, ep, hdt, hsz, ent⟩ := dl_frzT I1 hd
  refine ⟨⟨o, hgd, hx.1⟩, fun b eb => ⟨o, by cases eb; exact hgd, hx.2.1⟩, ?_⟩
  have I2 : Inv X pins σ H1 { s1 with heap := s1.heap.push { cls := .type "dict_values", data := .fields #[.ref d] } } := I1.kept (t' := s1.toks) fun b ob q => Heap.get?_push_of_some _ q
  have hm : s1.heap.DictRaw d es ep := ⟨o, hgd, hx, hdt⟩
  have fin : wpAny (model X.prog X.w) X.A (pyIter (.ref s1.heap.objs.size)) (PIE X pins σ tg R) X.xe { s1 with heap := s1.heap.push { cls := .type "dict_values", data := .fields #[.ref d] } } := by
    refine wpAny_pyIter_values_raw (d := d) ⟨_, Heap.get?_push_size _ rfl, rfl, rfl⟩ (hm.at fun o q => Heap.get?_push_of_some _ q) (pi_one (tk := s1.toks) I2 _ (turn_valsT _ hdt) ⟨_, Heap.get?_push_size _ rfl, rfl, ?_⟩ q)
    rw [hsz] <;> rfl
  show wpAny _ _ (callWith cpos (.builtin "dict.values") [.ref d] [] []) _ X.xe s1
  exact method_meetsIn F.slot_dict_values F.entry_dict_values rfl (PySem.evalArgs_none ⟨rfl, hm.typeIs, F.args_dict_values_1 _, _, meets_dict_values_raw d hs, ⟨es, ep, hm⟩, fin⟩)
end
/-! ### dict(d), d a written dict -/
def strOf : Value → Str
  | .str x _ => x
  | _ => ""
theorem dl_pairs {prog : Program} {w : World} : ∀ {l : List DictEntry}, PySem.W.KeysLit w.params l → Pairs (strKind prog w) l (l.map fun e => (strOf e.key, e.val))
  | [], _ => .nil
  | e :: r, ⟨⟨x, t, h1, h2⟩, hr⟩ => .cons (by show (strKind prog w).is (strOf e.key) e.key = true; rw [h1]; exact strKind_is prog w x t) rfl (dl_pairs hr)
theorem dl_keyOf {P : Params} : ∀ {l : List DictEntry} {ks : List Str}, l.map He.keyOf = He.keysIn P ks → l.map (fun e => strOf e.key) = ks
  | [], [], _ => rfl
  | [], _ :: _, h => by cases h
  | _ :: _, [], h => by cases h
  | e :: r, k :: ks, h => by
    have h1 : He.keyOf e :: r.map He.keyOf = some (k, PyData.keyHash P k) :: He.keysIn P ks := h
    injection h1 with h2 h3
    have e2 := dl_keyOf h3
    unfold He.keyOf at h2
    split at h2
    · rename_i x t q
      have h4 := (Prod.mk.inj (Option.some.inj h2)).1
      rw [List.map_cons, e2, q, ← h4]
      rfl
    · cases h2
/-- what the head tells of a written dict -/
theorem dicW_full {K : PySem.W.Frag} {w : World} {a : Addr} {ks : List Str} (h : He.dicW K a = some (He.keysIn w.params ks)) : ∃ es n, KDict K w a es n ∧ es.toList.map He.keyOf = He.keysIn w.params ks := by
  obtain ⟨es, n, D⟩ := He.dicW_ok h
  refine ⟨es, n, D, ?_⟩
  unfold He.dicW at h
  rw [D.at_] at h
  have h1 : (match decide (("dict" : String) = "dict") && ((#[] : Array (Option Value)).isEmpty && !(a == sysModules)) with
    | true => some (es.toList.map He.keyOf)
    | false => none) = some (He.keysIn w.params ks) := h
  have e : (decide (("dict" : String) = "dict") && ((#[] : Array (Option Value)).isEmpty && !(a == sysModules))) = true := by
    rw [D.low]; rfl
  rw [e] at h1
  exact Option.some.inj h1
theorem dl_dictOf_K {prog : Program} {w : World} {K : PySem.W.Frag} {h : Heap} {a : Addr} {ks : List Str} (X : K.In h) (hd : He.dicW K a = some (He.keysIn w.params ks)) (hn : ks.Nodup) : ∃ vs, h.DictOf (strKind prog w) a vs ∧ vs.length = ks.length := by
  obtain ⟨es, n, D, hk⟩ := dicW_full hd
  refine ⟨es.toList.map fun e => (strOf e.key, e.val), ⟨_, es, n, X _ _ D.at_, ⟨rfl, rfl, rfl⟩, rfl, fun e he => ?_, dl_pairs D.lit, ?_⟩, ?_⟩
  · obtain ⟨x, t, e1, e2⟩ := D.lit.all e (Array.mem_toList_iff.mpr he)
    exact ⟨x, by rw [e1]; exact strKind_is prog w x t, e2⟩
  · rw [List.map_map]
    show (es.toList.map fun e => strOf e.key).Nodup
    rw [dl_keyOf hk]
    exact hn
  · have := congrArg List.length (dl_keyOf hk)
    simpa using this
/-- dict(d): a new dict, of which nothing is told -/
def rDictW (K : PySem.W.Frag) (w : World) : List V → Hp → VK → Prop := fun xs H Q => ∃ (a : Addr) (ks : List Str), xs = [.ref a] ∧ He.dicW K a = some (He.keysIn w.params ks) ∧ ks.Nodup ∧ ks.length ≤ 100 ∧ ∀ v, Q v H
theorem call_dictW {X : Cx} : CallR X (.type "dict") (rDictW X.K X.w) := by
  intro pins s σ H xs us Q I r ⟨a, ks, ex, hd, hn, hl, q⟩
  subst ex
  obtain ⟨u, eu, rx⟩ := vals1 r
  subst eu
  obtain rfl : u = Value.ref a := rx
  obtain ⟨vs, dd, hv⟩ := dl_dictOf_K (prog := X.prog) I.kIn hd hn
  obtain ⟨es, n, D, _⟩ := dicW_full hd
  refine PySem.kt_call_dict D.low dd (by have := sizeLine_eq; omega) fun h' d' hs => ?_
  exact ⟨.ref s.heap.objs.size, H, I.kept (t' := s.toks) (fun b u e => (hs.2 b (Nat.ne_of_lt (Heap.lt_size e))).trans (Heap.get?_push_of_some _ e)), rfl, q _⟩
end L2

set_option maxRecDepth 100000
set_option maxHeartbeats 2000000
namespace PySem
open Sem (wp)
section
variable {prog : Program} {w : World} {A : Around} {E : Value → Shared → Prop} {s : Shared}
/-! ### min(a, b), max(a, b) over data -/
theorem dl_call_min_twoH {a b : Value} {Q : Value → Shared → Prop}
    (h : wpAny (model prog w) A.in1 (pyIter (.ref s.heap.objs.size)) (fun it s₂ => ∃ I fp wr G n P St H bt, it = .ref I ∧ WalksS prog w A.in1 I fp wr G n P St ∧ St 0 s₂ ∧ (∀ b ∈ fp, b < s₂.heap.objs.size) ∧ 0 < n ∧
      (∀ b o, H.get? b = some o → b ∉ wr) ∧ (∀ b o, H.get? b = some o → s₂.heap.get? b = some o) ∧ CmpIn prog w A.in1 .Lt H P bt ∧ ∀ v s', P (argBest bt (n - 1)) v → Moved wr G s₂ s' → Q v s') E
      { s with heap := s.heap.push { cls := .type "tuple", data := .seq #[a, b] } }) :
    wpAny (model prog w) A (call (.builtin "min") [a, b]) Q E s := by
  have hname : (toString "min" ++ toString ".loop" : String) = "min.loop" := by decide
  refine call_function_tree F.kind_min F.plain_min F.entry_min (F.args_min2 _ _) ?_
  show wpAny _ A.in1 (Builtin.Builtins.bindParams "min" ["key", "default"] 0 ⟨[], []⟩ >>= _) _ _ s
  refine wpAny_bind (wpAny_of_eq (show Builtin.Builtins.bindParams "min" ["key", "default"] 0 ⟨[], []⟩ = pure [none, none] from rfl) ?_)
  show wpAny _ A.in1 (newTuple [a, b] >>= _) _ _ s
  refine wpAny_bind (wpAny_newObj_type ?_)
  refine wpAny_bind (wpAny_mono h (fun it s₂ h₂ => ?_) fun _ _ e => e)
  obtain ⟨I, fp, wr, G, n, P, St, H, bt, rfl, W, hst, hfp, hn, hw, hkeep, hcmp, hQ⟩ := h₂
  refine wpAny_bind (wpAny_newObj_type ?_)
  have hSf : s₂.heap.objs.size ∉ fp := fun hm => Nat.lt_irrefl _ (hfp _ hm)
  rw [hname]
  refine wpAny_pure ⟨plainId_quiet F.plain_min_loop _, codeAny_min_loop_firstH W H hw bt hcmp s₂.heap.objs.size hSf (fresh_in hkeep) _ hn (fun b o e => Heap.get?_push_of_some _ (hkeep b o e)) (W.frame 0 s₂ _ s₂.toks hst (Nat.le_refl _) fun b _ o e => Heap.get?_push_of_some _ e) (Heap.get?_push_size _ rfl) fun v s' hP hm => ?_⟩
  exact hQ v s' hP (Moved.drop_new (tk := s₂.toks) hm (Nat.le_refl _))
theorem dl_call_max_twoH {a b : Value} {Q : Value → Shared → Prop}
    (h : wpAny (model prog w) A.in1 (pyIter (.ref s.heap.objs.size)) (fun it s₂ => ∃ I fp wr G n P St H bt, it = .ref I ∧ WalksS prog w A.in1 I fp wr G n P St ∧ St 0 s₂ ∧ (∀ b ∈ fp, b < s₂.heap.objs.size) ∧ 0 < n ∧
      (∀ b o, H.get? b = some o → b ∉ wr) ∧ (∀ b o, H.get? b = some o → s₂.heap.get? b = some o) ∧ CmpIn prog w A.in1 .Gt H P bt ∧ ∀ v s', P (argBest bt (n - 1)) v → Moved wr G s₂ s' → Q v s') E
      { s with heap := s.heap.push { cls := .type "tuple", data := .seq #[a, b] } }) :
    wpAny (model prog w) A (call (.builtin "max") [a, b]) Q E s := by
  have hname : (toString "max" ++ toString ".loop" : String) = "max.loop" := by decide
  refine call_function_tree F.kind_max F.plain_max F.entry_max (F.args_max2 _ _) ?_
  show wpAny _ A.in1 (Builtin.Builtins.bindParams "max" ["key", "default"] 0 ⟨[], []⟩ >>= _) _ _ s
  refine wpAny_bind (wpAny_of_eq (show Builtin.Builtins.bindParams "max" ["key", "default"] 0 ⟨[], []⟩ = pure [none, none] from rfl) ?_)
  show wpAny _ A.in1 (newTuple [a, b] >>= _) _ _ s
  refine wpAny_bind (wpAny_newObj_type ?_)
  refine wpAny_bind (wpAny_mono h (fun it s₂ h₂ => ?_) fun _ _ e => e)
  obtain ⟨I, fp, wr, G, n, P, St, H, bt, rfl, W, hst, hfp, hn, hw, hkeep, hcmp, hQ⟩ := h₂
  refine wpAny_bind (wpAny_newObj_type ?_)
  have hSf : s₂.heap.objs.size ∉ fp := fun hm => Nat.lt_irrefl _ (hfp _ hm)
  rw [hname]
  refine wpAny_pure ⟨plainId_quiet F.plain_max_loop _, codeAny_max_loop_firstH W H hw bt hcmp s₂.heap.objs.size hSf (fresh_in hkeep) _ hn (fun b o e => Heap.get?_push_of_some _ (hkeep b o e)) (W.frame 0 s₂ _ s₂.toks hst (Nat.le_refl _) fun b _ o e => Heap.get?_push_of_some _ e) (Heap.get?_push_size _ rfl) fun v s' hP hm => ?_⟩
  exact hQ v s' hP (Moved.drop_new (tk := s₂.toks) hm (Nat.le_refl _))
end
end PySem
namespace PySem.W
open PySem PySem.SeqAt PyProof.Rows
section
variable {prog : Program} {w : World} {A : Around} {E : Value → Shared → Prop} {s : Shared}
theorem dl_min_two {a b : Value} {da db : PyData} {as bs : List Addr} {Q : Value → Shared → Prop} (hh : A.handled = none) (ra : Reads s.heap a da as) (rb : Reads s.heap b db bs) (ha : AlikeAll [da, db]) (hu : A.units + 1 + PyData.depthAll [da, db] < cLine)
    (h : ∀ h' tk, (∀ b o, s.heap.get? b = some o → h'.get? b = some o) → Q (if dataLt db da = true then b else a) { s with heap := h', toks := tk }) : wpAny (model prog w) A (call (.builtin "min") [a, b]) Q E s := by
  have hl : (s.heap.push { cls := .type "tuple", data := .seq #[a, b] }).IsTuple s.heap.objs.size #[a, b] := ⟨_, Heap.get?_push_size _ rfl, rfl, 0, rfl⟩
  have hk0 : ∀ c o, s.heap.get? c = some o → (s.heap.push { cls := .type "tuple", data := .seq #[a, b] }).get? c = some o := fun c o e => Heap.get?_push_of_some _ e
  have hr : ReadsAll (s.heap.push { cls := .type "tuple", data := .seq #[a, b] }) (#[a, b] : Array Value).toList [da, db] (as ++ (bs ++ [])) := .cons (reads_keeps hk0 ra) (.cons (reads_keeps hk0 rb) .nil)
  refine dl_call_min_twoH (iter_tupleW (A := A.in1) (s := { s with heap := s.heap.push { cls := .type "tuple", data := .seq #[a, b] } }) hh hl fun s₂ e W st hfp hw hk => ?_)
  refine ⟨_, _, _, _, _, _, _, s.heap.push { cls := .type "tuple", data := .seq #[a, b] }, _, rfl, W, st, hfp, (by decide : 0 < 2), hw, hk, cmpIn_lt (A := A.in1) (s := { s with heap := s.heap.push { cls := .type "tuple", data := .seq #[a, b] } }) hr ha (by show A.units + 1 + _ < _; exact hu), fun v s' hP m => ?_⟩
  obtain ⟨h', tk, rfl, hk'⟩ := moved_old e rfl m
  have fin := h h' tk fun c o e => hk' c o (hk0 c o e)
  have hP' : (#[a, b] : Array Value)[argBest (fun i j => dataLt ([da, db].getD i .none) ([da, db].getD j .none)) 1]? = some v := hP
  cases q : dataLt db da with
  | true =>
    rw [q] at fin
    have e : argBest (fun i j => dataLt ([da, db].getD i .none) ([da, db].getD j .none)) 1 = 1 := by simp [argBest, q]
    rw [e] at hP'
    have : v = b := by simpa using hP'.symm
    subst this
    exact fin
  | false =>
    rw [q] at fin
    have e : argBest (fun i j => dataLt ([da, db].getD i .none) ([da, db].getD j .none)) 1 = 0 := by simp [argBest, q]
    rw [e] at hP'
    have : v = a := by simpa using hP'.symm
    subst this
    exact fin
theorem dl_max_two {a b : Value} {da db : PyData} {as bs : List Addr} {Q : Value → Shared → Prop} (hh : A.handled = none) (ra : Reads s.heap a da as) (rb : Reads s.heap b db bs) (ha : AlikeAll [da, db]) (hu : A.units + 1 + PyData.depthAll [da, db] < cLine)
    (h : ∀ h' tk, (∀ b o, s.heap.get? b = some o → h'.get? b = some o) → Q (if dataLt da db = true then b else a) { s with heap := h', toks := tk }) : wpAny (model prog w) A (call (.builtin "max") [a, b]) Q E s := by
  have hl : (s.heap.push { cls := .type "tuple", data := .seq #[a, b] }).IsTuple s.heap.objs.size #[a, b] := ⟨_, Heap.get?_push_size _ rfl, rfl, 0, rfl⟩
  have hk0 : ∀ c o, s.heap.get? c = some o → (s.heap.push { cls := .type "tuple", data := .seq #[a, b] }).get? c = some o := fun c o e => Heap.get?_push_of_some _ e
  have hr : ReadsAll (s.heap.push { cls := .type "tuple", data := .seq #[a, b] }) (#[a, b] : Array Value).toList [da, db] (as ++ (bs ++ [])) := .cons (reads_keeps hk0 ra) (.cons (reads_keeps hk0 rb) .nil)
  refine dl_call_max_twoH (iter_tupleW (A := A.in1) (s := { s with heap := s.heap.push { cls := .type "tuple", data := .seq #[a, b] } }) hh hl fun s₂ e W st hfp hw hk => ?_)
  refine ⟨_, _, _, _, _, _, _, s.heap.push { cls := .type "tuple", data := .seq #[a, b] }, _, rfl, W, st, hfp, (by decide : 0 < 2), hw, hk, cmpIn_gt (A := A.in1) (s := { s with heap := s.heap.push { cls := .type "tuple", data := .seq #[a, b] } }) hr ha (by show A.units + 1 + _ < _; exact hu), fun v s' hP m => ?_⟩
  obtain ⟨h', tk, rfl, hk'⟩ := moved_old e rfl m
  have fin := h h' tk fun c o e => hk' c o (hk0 c o e)
  have hP' : (#[a, b] : Array Value)[argBest (fun i j => dataLt ([da, db].getD j .none) ([da, db].getD i .none)) 1]? = some v := hP
  cases q : dataLt da db with
  | true =>
    rw [q] at fin
    have e : argBest (fun i j => dataLt ([da, db].getD j .none) ([da, db].getD i .none)) 1 = 1 := by simp [argBest, q]
    rw [e] at hP'
    have : v = b := by simpa using hP'.symm
    subst this
    exact fin
  | false =>
    rw [q] at fin
    have e : argBest (fun i j => dataLt ([da, db].getD j .none) ([da, db].getD i .none)) 1 = 0 := by simp [argBest, q]
    rw [e] at hP'
    have : v = a := by simpa using hP'.symm
    subst this
    exact fin
end
end PySem.W
namespace DL
open PySem L2
section
variable {X : Cx} {Y : Cy}
def twoB (k : PyData → PyData → (PyData → Prop) → Prop) : FB := fun xs Q => match xs with
  | [.d x, .d y] => k x y Q
  | _ => False
theorem mono_twoB {f : F2} (m : Mono2 f) : MonoB (twoB f) := fun xs Q Q' i h => by
  match xs, h with
  | [.d x, .d y], h => exact m _ _ _ _ i h
def minF : F2 := fun x y Q => (PySem.W.AlikeAll [x, y] ∧ PyData.depthAll [x, y] ≤ 60) ∧ Q (if PySem.W.dataLt y x = true then y else x)
def maxF : F2 := fun x y Q => (PySem.W.AlikeAll [x, y] ∧ PyData.depthAll [x, y] ≤ 60) ∧ Q (if PySem.W.dataLt x y = true then y else x)
theorem m_min : Mono2 minF := fun _ _ _ _ i h => ⟨h.1, i _ h.2⟩
theorem m_max : Mono2 maxF := fun _ _ _ _ i h => ⟨h.1, i _ h.2⟩
theorem svs2 {K : PySem.W.Frag} {B H : Hp} {x y : DV} {vs : List V} (h : SVs K Y B H [x, y] vs) : ∃ v u, vs = [v, u] ∧ SV K Y B H x v ∧ SV K Y B H y u := by
  cases h with
  | cons s t => cases t with
    | cons s2 t2 => cases t2; exact ⟨_, _, rfl, s, s2⟩
theorem b_min (hu : X.A.units + 64 < cLine) (hc : X.calm = true) : BltD X Y (.builtin "min") (twoB minF) := by
  intro pins s σ H vs us Q I r ⟨B, xs, w, sv, h⟩
  match xs, h with
  | [.d x, .d y], h =>
    obtain ⟨v, u, rfl, s1, s2⟩ := svs2 sv
    obtain ⟨a, b, rfl, ra, rb⟩ := vals2 r
    obtain ⟨as, r1⟩ := Dp.reads I x v a (Da.mono w.bh s1).dp ra
    obtain ⟨bs, r2⟩ := Dp.reads I y u b (Da.mono w.bh s2).dp rb
    refine PySem.W.dl_min_two (I.ok.hd hc) r1 r2 h.1.1 (by have := h.1.2; omega) fun h' tk k => ?_
    by_cases q : PySem.W.dataLt y x = true
    · rw [if_pos q]; exact ⟨u, H, I.kept k, rb, here X.K w (by have := h.2; rw [if_pos q] at this; exact this) s2⟩
    · rw [if_neg q]; exact ⟨v, H, I.kept k, ra, here X.K w (by have := h.2; rw [if_neg q] at this; exact this) s1⟩
theorem b_max (hu : X.A.units + 64 < cLine) (hc : X.calm = true) : BltD X Y (.builtin "max") (twoB maxF) := by
  intro pins s σ H vs us Q I r ⟨B, xs, w, sv, h⟩
  match xs, h with
  | [.d x, .d y], h =>
    obtain ⟨v, u, rfl, s1, s2⟩ := svs2 sv
    obtain ⟨a, b, rfl, ra, rb⟩ := vals2 r
    obtain ⟨as, r1⟩ := Dp.reads I x v a (Da.mono w.bh s1).dp ra
    obtain ⟨bs, r2⟩ := Dp.reads I y u b (Da.mono w.bh s2).dp rb
    refine PySem.W.dl_max_two (I.ok.hd hc) r1 r2 h.1.1 (by have := h.1.2; omega) fun h' tk k => ?_
    by_cases q : PySem.W.dataLt x y = true
    · rw [if_pos q]; exact ⟨u, H, I.kept k, rb, here X.K w (by have := h.2; rw [if_pos q] at this; exact this) s2⟩
    · rw [if_neg q]; exact ⟨v, H, I.kept k, ra, here X.K w (by have := h.2; rw [if_neg q] at this; exact this) s1⟩
end
end DL

set_option maxRecDepth 100000
set_option maxHeartbeats 2000000
namespace DL
open PySem L2
section
variable {X : Cx} {Y : Cy} {a b c e : Expr} {wa wb wc : EW} {pos p : Pos} {K : PySem.W.Frag} {B H : Hp}
/-! ### l.index(x) -/
def idxD (ds : List PyData) (d : PyData) : Option Nat := ds.findIdx? fun z => PyData.eqv z d
def wIndex (wa wb : EW) : EW := fun en Q => wa en fun x => match asL x with
  | .list ds => wb en fun y => onD y fun dy => (SeqAt.shaped (.list ds) = true ∧ SeqAt.shaped dy = true) ∧ match idxD ds dy with
    | some j => Q (.d (.int (j : Nat)))
    | none => False
  | _ => False
theorem idx_spec {ds : List PyData} {d : PyData} {j : Nat} (h : idxD ds d = some j) : ∃ z, ds[j]? = some z ∧ PyData.eqv z d = true ∧ ∀ (m : Nat) (z' : PyData), m < j → ds[m]? = some z' → PyData.eqv z' d = false := by
  unfold idxD at h
  rw [List.findIdx?_eq_some_iff_getElem] at h
  obtain ⟨hj, h1, h2⟩ := h
  refine ⟨ds[j], List.getElem?_eq_getElem hj, h1, fun m z' hm hz => ?_⟩
  obtain ⟨hm2, e⟩ := List.getElem?_eq_some_iff.mp hz
  have := h2 m hm
  rw [← e]
  simpa using this
theorem de_index {p2 p3 : Pos} (hu : X.A.units + 65 < cLine) (ha : DE X Y a wa) (hb : DE X Y b wb)
    (hs : starEach [b] X.env = (false, eval b X.env) :: starEach [] X.env := by rfl) (hpl : (backTo p3 (starEach ([] : List Expr) X.env)).any (·.1) = false := by rfl)
    (hbase : attributeBase a "index" X.env (eval a X.env) = eval a X.env := by rfl)
    (hfew : ((backTo p3 (starEach (b :: []) X.env)).all (fun x => !x.1) && (backToKw p3 (keywordEach [] X.env)).all (fun x => x.1.isSome)
      && decide ((b :: ([] : List Expr)).length + ([] : List Keyword).length + (if ([] : List Keyword).isEmpty then 0 else 1) < 30)) = true := by rfl)
    (hline : (p2.endLine == p3.line) = true := by rfl) : DE X Y (.Call (.Attribute a "index" p2) [b] [] p3) (wIndex wa wb) := by
  refine ⟨peW (pe_bm PySem.F.plainAttrs_list PySem.F.slot_list_index PySem.F.type_list_index (mt_indexD hu) ha.pe (pa_cons hb.pe pa_nil hs) hbase hfew hline hs hpl) fun σ H Q ⟨en, B, I, h⟩ => ?_, fun en Q Q' i h => ha.mono en _ _ (fun x h => ?_) h⟩
  · refine ⟨en, B, I, ha.mono en _ _ (fun x h v B1 H1 e1 w1 s1 => ?_) h⟩
    generalize ea : asL x = dx at h
    cases dx <;> try exact h.elim
    rename_i ds
    have h : wb en fun y => onD y fun dy => (SeqAt.shaped (.list ds) = true ∧ SeqAt.shaped dy = true) ∧ match idxD ds dy with
      | some j => ∀ v B' H', Ext Y.Z B H B' H' → Wf Y.Z B' H' → SV X.K Y B' H' (.d (.int (j : Nat))) v → Q v H'
      | none => False := h
    have hl : ∀ {B2 H2}, SV X.K Y B2 H2 x v → Wf Y.Z B2 H2 → ∃ p us, v = .ref p ∧ SqL X.K H2 p us ∧ Dp X.K H2 (V.ref p) (.list ds) := by
      intro B2 H2 s w2
      rcases s.noLater w2 with ⟨ds', us', p', e', hp', hd', ea'⟩ | hd' | e'
      · subst e'
        rw [ea] at ea'
        cases ea'
        exact ⟨_, _, rfl, hp', .lst hp' (hd'.mono w2.bh).dp⟩
      · rw [ea] at hd'
        cases hd' with
        | lst hp hd => exact ⟨_, _, rfl, .of (w2.bh _ _ hp), .lst (.of (w2.bh _ _ hp)) (hd.mono w2.bh).dp⟩
      · rw [ea] at e'; cases e'
    obtain ⟨p, us, rfl, hp, _⟩ := hl s1 w1
    refine ⟨.inl ⟨rfl, us, hp⟩, en, B1, I.ext e1 w1, hb.mono en _ _ (fun y h u B2 H2 e2 w2 s2 => ?_) h⟩
    cases y <;> try exact h.elim
    rename_i dy
    obtain ⟨⟨g1, g2⟩, h⟩ := h
    obtain ⟨p', us', ep, _, hl2⟩ := hl (s1.ext w1 I.w0 e2) w2
    cases ep
    split at h
    · rename_i j hj
      obtain ⟨z, q1, q2, q3⟩ := idx_spec hj
      exact ⟨p, u, dy, ds, j, z, rfl, rfl, hl2, (Da.mono w2.bh s2).dp, g1, g2, q1, q2, q3, h _ B2 H2 (e1.trans I.wf w1 e2) w2 (.int _)⟩
    · exact h.elim
  · generalize asL x = dx at h ⊢
    cases dx <;> try exact h.elim
    refine hb.mono en _ _ (fun y h => onD_mono h fun dy h => ⟨h.1, ?_⟩) h
    have h2 := h.2
    cases q : idxD _ dy with
    | none => rw [q] at h2; exact h2.elim
    | some j => rw [q] at h2; exact i _ h2
end
end DL

set_option maxRecDepth 100000
set_option maxHeartbeats 2000000
namespace DL
open PySem L2
/-! ### written dicts from texts to texts -/
structure WTab (K : PySem.W.Frag) (w : World) (mg : Str → Option Value) (x : Str) (tab : List (Str × Str)) : Prop where
  ex : ∃ d, mg x = some (.ref d) ∧ PySem.W.keepIn K (.ref d) = PySem.W.keepIn K (.ref d) ∧ He.dicW K d = some (He.keysIn w.params (tab.map (·.1))) ∧ (tab.map (·.1)).Nodup ∧ tab.length ≤ 100 ∧ ∀ k y, tab.lookup k = some y → KDct K w d k (.str y)
def wWix (tab : List (Str × Str)) (wb : EW) : EW := fun en Q => wb en fun y => onD y fun dy => match dy with
  | .str s => match tab.lookup s with
    | some z => Q (.d (.str z))
    | none => False
  | _ => False
/-- a value of which nothing is told -/
def FPany : FP := ⟨fun _ _ => True, fun _ _ _ _ _ => trivial⟩
def wAny : EW := fun _ Q => Q (.p FPany)
/-! ### frozen objects -/
def FldP (K : PySem.W.Frag) (P : FP) (f : Str) (y : DV) : Prop := noL y ∧ ∀ B v, P.1 B v → ∃ a C dx fs u, v = .ref a ∧ B a = some (.ins C dx fs) ∧ Cls K C ∧ NoAttr K C f ∧ fs.lookup f = some u ∧ SVp K B y u
def wFld (K : PySem.W.Frag) (wa : EW) (f : Str) : EW := fun en Q => wa en fun x => match x with
  | .p P => ∃ y, FldP K P f y ∧ Q y
  | _ => False
def InsP (P : FP) (C : Addr) (m : Str) : Prop := ∀ B v, P.1 B v → ∃ a dx fs, v = .ref a ∧ B a = some (.ins C dx fs) ∧ fs.lookup m = none
/-- a method -/
structure Mth (P : Program) (w : World) (K : PySem.W.Frag) (mg : Str → Option Value) (base : Heap) (Z : Res) (k : Nat) (C : Addr) (m : Str) (sp : SpD) : Prop where
  ex : ∃ (g : Addr) (fd : FuncData) (ps : List Str) (dvs : List V) (ds : List Value) (sp' : Sp), Cls K C ∧ Meth K C m g ∧ FnOk P w K mg base CX0 k g fd ps sp' ∧ Binds K fd ps ds ∧ Vals dvs ds ∧
    ∀ vs H Q E, DSp K Z sp vs H Q E → sp' (vs ++ dvs) H Q E
  mono : MonoS sp
def wMeth (C : Addr) (m : Str) (sp : SpD) (wa : EW) (ws : List EW) : EW := fun en Q => wa en fun x => match x with
  | .p P => InsP P C m ∧ wArgs ws en fun xs => noLs xs ∧ sp (.p P :: xs) fun y => noL y ∧ Q y
  | _ => False
/-- the making of an object -/
structure Mkr (P : Program) (w : World) (K : PySem.W.Frag) (mg : Str → Option Value) (base : Heap) (Z : Res) (k : Nat) (x : Str) (sp : SpD) : Prop where
  ex : ∃ (C f : Addr) (fd : FuncData) (ps : List Str) (dvs : List V) (ds : List Value) (sp' : Sp), Mk K C f ∧ FnOk P w K mg base CX0 k f fd ps sp' ∧ mg x = some (.ref C) ∧ Binds K fd ps ds ∧ Vals dvs ds ∧
    ∀ vs H Q E, DSp K Z sp vs H Q E → ∀ a dx, H a = none → H dx = none → dx ≠ a → sp' (.ref a :: (vs ++ dvs)) (upd (upd H dx (.own a)) a (.ins C dx [])) (fun v H2 => v = .non ∧ Q (.ref a) H2) E
  mono : MonoS sp
section
variable {X : Cx} {Y : Cy} {a b c e o : Expr} {wa wb wc : EW} {pos p apos : Pos} {K : PySem.W.Frag} {B H : Hp}
theorem de_wix {x : Str} {tab : List (Str × Str)} (t : WTab X.K X.w X.mg x tab) (hg : Gl X x) (hb : DE X Y b wb) (hs : PlainIx b := by intro _ _; rfl) (hd : (x == ("__debug__" : Str)) = false := by decide) : DE X Y (.Subscript (.Name x p) b pos) (wWix tab wb) := by
  obtain ⟨d, hm, _, _, _, _, ht⟩ := t.ex
  refine ⟨peW (pe_ix ix_kdict (pe_glob (v := .ref d) hg hm rfl hd) hb.pe hs) fun σ H Q ⟨en, B, I, h⟩ => ⟨en, B, I, hb.mono en _ _ (fun y h v B' H' e w s => ?_) h⟩, fun en Q Q' i h => hb.mono en _ _ (fun y h => onD_mono h fun dy h => ?_) h⟩
  · cases y <;> try exact h.elim
    rename_i dy
    cases dy <;> try exact h.elim
    rename_i z
    cases s
    have h : match tab.lookup z with
      | some z => ∀ v B' H', Ext Y.Z B H B' H' → Wf Y.Z B' H' → SV X.K Y B' H' (.d (.str z)) v → Q v H'
      | none => False := h
    cases q : tab.lookup z with
    | none => rw [q] at h; exact h.elim
    | some y =>
      rw [q] at h
      exact ⟨d, z, .str y, rfl, rfl, ht _ _ q, h _ _ _ e w (.str _)⟩
  · cases dy <;> try exact h.elim
    rename_i z
    have h : match tab.lookup z with
      | some z => Q (.d (.str z))
      | none => False := h
    show match tab.lookup z with
      | some z => Q' (.d (.str z))
      | none => False
    cases q : tab.lookup z with
    | none => rw [q] at h; exact h.elim
    | some y => rw [q] at h; exact i _ h
theorem de_dictW {x : Str} {tab : List (Str × Str)} (t : WTab X.K X.w X.mg x tab) (hgx : Gl X x) (hg : Gl X "dict") (hm : X.mg "dict" = none) (hd : (x == ("__debug__" : Str)) = false := by decide)
    (he : starEach [.Name x p] X.env = (false, eval (.Name x p) X.env) :: starEach [] X.env := by rfl) (hpl : (backTo pos (starEach ([] : List Expr) X.env)).any (·.1) = false := by rfl) : DE X Y (.Call (.Name "dict" apos) [.Name x p] [] pos) wAny := by
  obtain ⟨d, hmx, _, h1, h2, h3, _⟩ := t.ex
  refine ⟨peW (pe_callTy call_dictW hg hm (by decide +kernel) (pa_cons (pe_glob (v := .ref d) hgx hmx rfl hd) pa_nil he) (by decide) (by decide) he hpl) fun σ H Q ⟨en, B, I, h⟩ => ?_, fun en Q Q' i h => i _ h⟩
  refine ⟨d, _, rfl, h1, h2, by simpa using h3, fun v => h v B H (Ext.refl _ _ _) I.wf trivial⟩
theorem de_fld {f : Str} (ha : DE X Y a wa) (hb : attributeBase a f X.env (eval a X.env) = eval a X.env := by rfl) : DE X Y (.Attribute a f pos) (wFld X.K wa f) := by
  refine ⟨peW (pe_fld ha.pe hb) fun σ H Q ⟨en, B, I, h⟩ => ⟨en, B, I, ha.mono en _ _ (fun x h v B' H' e w s => ?_) h⟩, fun en Q Q' i h => ha.mono en _ _ (fun x h => ?_) h⟩
  · cases x <;> try exact h.elim
    obtain ⟨y, ⟨_, hf⟩, h⟩ := h
    obtain ⟨z, C, dx, fs, u, rfl, h1, h2, h3, h4, h5⟩ := hf B' v s
    exact ⟨z, C, dx, fs, u, rfl, w.bh _ _ h1, h2, h3, h4, h u B' H' e w h5.sv⟩
  · cases x <;> try exact h.elim
    obtain ⟨y, hf, h⟩ := h
    exact ⟨y, hf, i _ h⟩
theorem meth_run {C : Addr} {m : Str} {sp : SpD} {sp' : Sp} {dvs : List V} (hsp : ∀ vs H Q E, DSp X.K Y.Z sp vs H Q E → sp' (vs ++ dvs) H Q E) (hm : MonoS sp) (ho : DE X Y o wa) {ws : List EW} {es : List Expr} (ha : DA X Y es ws) {σ : L2.St} {H : Hp} {Q : VK} {E : XK} (h : tD X.K Y (wMeth C m sp wa ws) σ H Q) : tMeth C m sp' dvs E (tD X.K Y wa) (tDA X.K Y (wArgs ws)) σ H Q := by
  obtain ⟨en, B, I, h⟩ := h
  refine ⟨en, B, I, ho.mono en _ _ (fun x h v B1 H1 e1 w1 s1 => ?_) h⟩
  cases x <;> try exact h.elim
  rename_i P
  obtain ⟨hi, h⟩ := h
  obtain ⟨a, dx, fs, rfl, h1, h2⟩ := hi B1 v s1
  refine ⟨a, dx, fs, rfl, w1.bh _ _ h1, h2, en, B1, I.ext e1 w1, ha.mono en _ _ (fun xs ⟨n, h⟩ vs B2 H2 e2 w2 s2 => ?_) h⟩
  refine hsp (.ref a :: vs) _ _ _ ⟨B2, .p P :: xs, w2, .cons (P.2 _ _ _ e2.b s1) (s2.toP n), hm _ _ _ (fun x h v B3 H3 e3 w3 s3 => ?_) h⟩
  exact h.2 _ _ _ ((e1.trans I.wf w1 e2).trans I.wf w2 e3) w3 s3.sv
theorem wMeth_mono {C : Addr} {m : Str} {sp : SpD} (hm : MonoS sp) (ho : DE X Y o wa) {ws : List EW} {es : List Expr} (ha : DA X Y es ws) : ∀ (en : En) (Q Q' : DV → Prop), (∀ x, Q x → Q' x) → wMeth C m sp wa ws en Q → wMeth C m sp wa ws en Q' := fun en Q Q' i h =>
  ho.mono en _ _ (fun x h => by
    cases x <;> try exact h.elim
    exact ⟨h.1, ha.mono en _ _ (fun xs ⟨n, h⟩ => ⟨n, hm _ _ _ (fun x h => ⟨h.1, i _ h.2⟩) h⟩) h.2⟩) h
theorem de_meth {k j : Nat} {C : Addr} {m : Str} {sp : SpD} {ws : List EW} {es : List Expr} (c : Mth X.prog X.w X.K X.mg X.base Y.Z k C m sp) (hr : Room j X.A) (ho : DE X Y o wa) (ha : DA X Y (e :: es) ws) (hk : k ≤ j := by decide) {pl : Sem Bool}
    (hst : starEach (e :: es) X.env = (false, eval e X.env) :: starEach es X.env := by rfl) (hpl : (backTo pos (starEach es X.env)).any (·.1) = false := by rfl)
    (ht : eval (.Call (.Attribute o m apos) (e :: es) [] pos) X.env = (do
      let ov ← eval o X.env
      standAt apos.atName
      let (f, first) ← holding [ov] (getMethod ov m pl)
      callWith pos f first (backTo pos (starEach (e :: es) X.env)) (backToKw pos (keywordEach [] X.env))) := by rfl) :
    DE X Y (.Call (.Attribute o m apos) (e :: es) [] pos) (wMeth C m sp wa ws) := by
  obtain ⟨g, fd, ps, dvs, ds, sp', cc, hm, F, hb, hd, hsp⟩ := c.ex
  exact ⟨peW (pe_meth ho.pe cc hm F (hr.mono hk) hb hd pass0 ha.pa hst hpl ht) fun σ H Q h => meth_run hsp c.mono ho ha h, wMeth_mono c.mono ho ha⟩
theorem de_meth0 {k j : Nat} {C : Addr} {m : Str} {sp : SpD} (c : Mth X.prog X.w X.K X.mg X.base Y.Z k C m sp) (hr : Room j X.A) (ho : DE X Y o wa) (hk : k ≤ j := by decide) {pl : Sem Bool}
    (ht : eval (.Call (.Attribute o m apos) [] [] pos) X.env = (do
      let ov ← eval o X.env
      standAt apos.atName
      let (f, first) ← holding [ov] (getMethod ov m pl)
      callWith pos f first (backTo pos (starEach [] X.env)) (backToKw pos (keywordEach [] X.env))) := by rfl) :
    DE X Y (.Call (.Attribute o m apos) [] [] pos) (wMeth C m sp wa []) := by
  obtain ⟨g, fd, ps, dvs, ds, sp', cc, hm, F, hb, hd, hsp⟩ := c.ex
  refine ⟨peW (pe_meth0 ho.pe cc hm F (hr.mono hk) hb hd pass0 ht) fun σ H Q ⟨en, B, I, h⟩ => ?_, wMeth_mono (X := X) c.mono ho da_nil⟩
  refine ⟨en, B, I, ho.mono en _ _ (fun x h v B1 H1 e1 w1 s1 => ?_) h⟩
  cases x <;> try exact h.elim
  rename_i P
  obtain ⟨hi, _, h⟩ := h
  obtain ⟨a, dx, fs, rfl, h1, h2⟩ := hi B1 v s1
  refine ⟨a, dx, fs, rfl, w1.bh _ _ h1, h2, ?_⟩
  exact hsp [.ref a] _ _ _ ⟨B1, [.p P], w1, .cons s1 .nil, c.mono _ _ _ (fun x h v B3 H3 e3 w3 s3 => h.2 _ _ _ (e1.trans I.wf w1 e3) w3 s3.sv) h⟩
theorem de_make {k j : Nat} {x : Str} {sp : SpD} {ws : List EW} {es : List Expr} (c : Mkr X.prog X.w X.K X.mg X.base Y.Z k x sp) (hr : Room j X.A) (hg : Gl X x) (ha : DA X Y (e :: es) ws) (hk : k + 1 ≤ j := by decide)
    (hdb : (x == ("__debug__" : Str)) = false := by decide) (he : starEach (e :: es) X.env = (false, eval e X.env) :: starEach es X.env := by rfl) (hpl : (backTo pos (starEach es X.env)).any (·.1) = false := by rfl) :
    DE X Y (.Call (.Name x p) (e :: es) [] pos) (wCall sp ws) := by
  obtain ⟨C, f, fd, ps, dvs, ds, sp', M, F, hm, hb, hd, hsp⟩ := c.ex
  refine ⟨peW (pe_make M F (hr.mono hk) hg hm hb hd pass0 ha.pa hdb he hpl) fun σ H Q ⟨en, B, I, h⟩ => ?_, wCall_mono c.mono ha⟩
  refine ⟨en, B, I, ha.mono en _ _ (fun xs ⟨n, h⟩ vs B1 H1 e1 w1 s1 a dx na nd ne => ?_) h⟩
  refine hsp vs H1 Q _ ⟨B1, xs, w1, s1.toP n, c.mono _ _ _ (fun x h v B2 H2 e2 w2 s2 => ?_) h⟩ a dx na nd ne
  exact h.2 _ _ _ (e1.trans I.wf w1 e2) w2 s2.sv
end
/-! ### a method over data -/
section
variable {P : Program} {w : World} {K : PySem.W.Frag} {mg : Str → Option Value} {base : Heap}
theorem okM {x qual m : Str} {st : Stmt} {f C : Addr} {fd : FuncData} {N ps : List Str} {k : Nat} {sp : SpD} {Z : Res} (F : Fun K x qual st f fd) (cc : Cls K C) (hm : Meth K C m f) (hb : Binds K fd ps []) (S : FnScope N ps (defScope st)) (mo : MonoS sp)
    (len : ∀ xs Q, sp xs Q → xs.length = ps.length)
    (hbody : ∃ W : SW, (∀ (cdv : Value) (A : Around) (outer : List Env) (s : Shared) (H : Hp) (E : XK) (B0 H0 : Hp), Room k (A.deeper (PyProof.Rows.envOfC qual (defScope st) s.heap.objs.size f cdv)) → DSs (cxOf CX0 P w K mg base N qual (defScope st) f cdv A outer s H E).nox ⟨Z, B0, H0⟩ (defBody st) W) ∧
      ∀ (xs : List DV) (R : DV → Prop), sp xs R → W { nx := fun _ => R (.d .none), rt := R } (startE N.length xs)) : Mth P w K mg base Z (k + 1) C m sp := by
  obtain ⟨W, hbody, hw⟩ := hbody
  refine ⟨⟨f, fd, ps, [], [], DSp K Z sp, cc, hm, F.ok S (fun vs H Q E h => ?_) (fun cdv A outer s H vs Q E hr h => ?_), hb, .nil, fun vs H Q E h => by rw [List.append_nil]; exact h⟩, mo⟩
  · obtain ⟨B, xs, wf, sv, h⟩ := h
    rw [← sv.length]
    exact len _ _ h
  · obtain ⟨B, xs, wf, sv, h⟩ := h
    have hb := hbody cdv A outer s H E B H hr
    refine ⟨_, hb.ps, startE N.length xs, B, ⟨wf, wf, Ext.refl _ _ _, ?_, fun i x hx => ?_, fun i j ys zs p h1 => ?_⟩, hb.mono _ _ _ ?_ (hw xs _ h)⟩
    · simp [startE, L2.start, sv.length]
    · obtain ⟨v, h1, h2⟩ := startE_slot (Y := ⟨Z, B, H⟩) (H := H) sv _ i x hx
      exact ⟨v, by rw [sv.length] at h1; exact h1, h2.sv⟩
    · obtain ⟨v, _, h2⟩ := startE_slot (Y := ⟨Z, B, H⟩) (H := H) sv _ i _ h1
      exact h2.elim
    · refine ⟨fun en h σ B' H' sb I => h _ B' H' I.ex I.wf .non, fun x h v B' H' e w s => h v B' H' e w s, fun _ h => h.elim, fun _ h => h.elim⟩
end
end DL

set_option maxRecDepth 100000
set_option maxHeartbeats 2000000
namespace DL
open PySem L2
/-! ### defs, from what the head tells of them -/
abbrev FnP (K : PySem.W.Frag) (x qual : Str) (st : Stmt) (dvs : List V) (f : Addr) (fd : FuncData) : Prop := FunD K x qual (defArgs st) (defBody st) (defScope st) dvs [] f fd
section
variable {P : Program} {w : World} {K : PySem.W.Frag} {mg : Str → Option Value} {base : Heap}
theorem okF {x qual : Str} {st : Stmt} {dvs : List V} {f : Addr} {fd : FuncData} {N ps : List Str} {k : Nat} {sp : SpD} {Z : Res} (F : FnP K x qual st dvs f fd) (S : FnScope N ps (defScope st)) (m : MonoS sp)
    (len : ∀ xs Q, sp xs Q → xs.length = ps.length)
    (hbody : ∃ W : SW, (∀ (cdv : Value) (A : Around) (outer : List Env) (s : Shared) (H : Hp) (E : XK) (B0 H0 : Hp), Room k (A.deeper (PyProof.Rows.envOfC qual (defScope st) s.heap.objs.size f cdv)) → DSs (cxOf CX0 P w K mg base N qual (defScope st) f cdv A outer s H E).nox ⟨Z, B0, H0⟩ (defBody st) W) ∧
      ∀ (xs : List DV) (R : DV → Prop), sp xs R → W { nx := fun _ => R (.d .none), rt := R } (startE N.length xs)) : FnOk P w K mg base CX0 (k + 1) f fd ps (DSp K Z sp) := by
  obtain ⟨W, hbody, hw⟩ := hbody
  refine F.ok S (fun vs H Q E h => ?_) (fun cdv A outer s H vs Q E hr h => ?_)
  · obtain ⟨B, xs, wf, sv, h⟩ := h
    rw [← sv.length]
    exact len _ _ h
  · obtain ⟨B, xs, wf, sv, h⟩ := h
    have hb := hbody cdv A outer s H E B H hr
    refine ⟨_, PSs.nox hb.ps, startE N.length xs, B, ⟨wf, wf, Ext.refl _ _ _, ?_, fun i x hx => ?_, fun i j ys zs p h1 => ?_⟩, hb.mono _ _ _ ?_ (hw xs _ h)⟩
    · simp [startE, L2.start, sv.length]
    · obtain ⟨v, h1, h2⟩ := startE_slot (Y := ⟨Z, B, H⟩) (H := H) sv _ i x hx
      exact ⟨v, by rw [sv.length] at h1; exact h1, h2.sv⟩
    · obtain ⟨v, _, h2⟩ := startE_slot (Y := ⟨Z, B, H⟩) (H := H) sv _ i _ h1
      exact h2.elim
    · refine ⟨fun en h σ B' H' sb I => h _ B' H' I.ex I.wf .non, fun x h v B' H' e w s => h v B' H' e w s, fun _ h => h.elim, fun _ h => h.elim⟩
/-- a def without defaults -/
theorem calD {x : Str} {f : Addr} {fd : FuncData} {ps : List Str} {k : Nat} {sp : SpD} {Z : Res} (h : FnOk P w K mg base CX0 k f fd ps (DSp K Z sp)) (kp : PySem.W.keepIn K (.ref f) = true) (hm : mg x = some (.ref f)) (hb : Binds K fd ps []) (m : MonoS sp) : Cal P w K mg base Z k x sp :=
  ⟨⟨f, fd, ps, [], [], DSp K Z sp, h, hm, kp, hb, .nil, fun vs H Q E h => by rw [List.append_nil]; exact h⟩, m⟩
/-- .. whose last parameters stand by their defaults -/
theorem calDf {x : Str} {f : Addr} {fd : FuncData} {ps : List Str} {k : Nat} {sp sp0 : SpD} {Z : Res} {dvs : List V} {ds : List Value} {dxs : List DV} (h : FnOk P w K mg base CX0 k f fd ps (DSp K Z sp0)) (kp : PySem.W.keepIn K (.ref f) = true) (hm : mg x = some (.ref f)) (hb : Binds K fd ps ds) (hd : Vals dvs ds) (m : MonoS sp)
    (hx : ∀ B, SVps K B dxs dvs) (hs : ∀ xs Q, sp xs Q → sp0 (xs ++ dxs) Q) : Cal P w K mg base Z k x sp :=
  ⟨⟨f, fd, ps, dvs, ds, DSp K Z sp0, h, hm, kp, hb, hd, fun vs H Q E ⟨B, xs, w, sv, h⟩ => ⟨B, xs ++ dxs, w, by
    have app : ∀ {xs : List DV} {vs : List V}, SVps K B xs vs → SVps K B (xs ++ dxs) (vs ++ dvs) := by
      intro xs vs s
      induction s with
      | nil => exact hx B
      | cons a _ ih => exact .cons a ih
    exact app sv, hs _ _ h⟩⟩, m⟩
theorem mthD {f C : Addr} {m : Str} {fd : FuncData} {ps : List Str} {k : Nat} {sp : SpD} {Z : Res} (h : FnOk P w K mg base CX0 k f fd ps (DSp K Z sp)) (cc : Cls K C) (hm : Meth K C m f) (hb : Binds K fd ps []) (mo : MonoS sp) : Mth P w K mg base Z k C m sp :=
  ⟨⟨f, fd, ps, [], [], DSp K Z sp, cc, hm, h, hb, .nil, fun vs H Q E h => by rw [List.append_nil]; exact h⟩, mo⟩
end

/-- what follows, put otherwise -/
def DEnds.sq (D : DEnds) (f : En → Prop) : DEnds := { D with nx := f }
def DEnds.lp (D : DEnds) (f : En → Prop) : DEnds := { D with nx := f, ct := f, bk := D.nx }
@[simp] theorem sq_nx {D : DEnds} {f : En → Prop} : (D.sq f).nx = f := rfl
@[simp] theorem sq_rt {D : DEnds} {f : En → Prop} : (D.sq f).rt = D.rt := rfl
@[simp] theorem sq_bk {D : DEnds} {f : En → Prop} : (D.sq f).bk = D.bk := rfl
@[simp] theorem sq_ct {D : DEnds} {f : En → Prop} : (D.sq f).ct = D.ct := rfl
@[simp] theorem lp_nx {D : DEnds} {f : En → Prop} : (D.lp f).nx = f := rfl
@[simp] theorem lp_rt {D : DEnds} {f : En → Prop} : (D.lp f).rt = D.rt := rfl
@[simp] theorem lp_bk {D : DEnds} {f : En → Prop} : (D.lp f).bk = D.nx := rfl
@[simp] theorem lp_ct {D : DEnds} {f : En → Prop} : (D.lp f).ct = f := rfl
/-! ### what is asked, as equations -/
section
variable {Q : DV → Prop} {QP : PyData → Prop} {QB : Bool → Prop} {en : En} {D : DEnds}
@[simp] theorem q_slot0 {x : Option DV} {r : En} : slotOf (x :: r) 0 = x := rfl
@[simp] theorem q_slotS {x : Option DV} {r : En} {n : Nat} : slotOf (x :: r) (n + 1) = slotOf r n := rfl
@[simp] theorem q_slot1 {x y : Option DV} {r : En} : slotOf (x :: y :: r) 1 = y := rfl
@[simp] theorem q_slot2 {x y z : Option DV} {r : En} : slotOf (x :: y :: z :: r) 2 = z := rfl
@[simp] theorem q_slot3 {a x y z : Option DV} {r : En} : slotOf (a :: x :: y :: z :: r) 3 = z := rfl
@[simp] theorem q_slot4 {a b x y z : Option DV} {r : En} : slotOf (a :: b :: x :: y :: z :: r) 4 = z := rfl
@[simp] theorem q_slot5 {a b c x y z : Option DV} {r : En} : slotOf (a :: b :: c :: x :: y :: z :: r) 5 = z := rfl
@[simp] theorem q_slot6 {a0 a1 a2 a3 a4 a5 z : Option DV} {r : En} : slotOf (a0 :: a1 :: a2 :: a3 :: a4 :: a5 :: z :: r) 6 = z := rfl
@[simp] theorem q_slot7 {a0 a1 a2 a3 a4 a5 a6 z : Option DV} {r : En} : slotOf (a0 :: a1 :: a2 :: a3 :: a4 :: a5 :: a6 :: z :: r) 7 = z := rfl
@[simp] theorem q_slot8 {a0 a1 a2 a3 a4 a5 a6 a7 z : Option DV} {r : En} : slotOf (a0 :: a1 :: a2 :: a3 :: a4 :: a5 :: a6 :: a7 :: z :: r) 8 = z := rfl
@[simp] theorem q_slot9 {a0 a1 a2 a3 a4 a5 a6 a7 a8 z : Option DV} {r : En} : slotOf (a0 :: a1 :: a2 :: a3 :: a4 :: a5 :: a6 :: a7 :: a8 :: z :: r) 9 = z := rfl
@[simp] theorem q_slot10 {a0 a1 a2 a3 a4 a5 a6 a7 a8 a9 z : Option DV} {r : En} : slotOf (a0 :: a1 :: a2 :: a3 :: a4 :: a5 :: a6 :: a7 :: a8 :: a9 :: z :: r) 10 = z := rfl
@[simp] theorem q_slot11 {a0 a1 a2 a3 a4 a5 a6 a7 a8 a9 a10 z : Option DV} {r : En} : slotOf (a0 :: a1 :: a2 :: a3 :: a4 :: a5 :: a6 :: a7 :: a8 :: a9 :: a10 :: z :: r) 11 = z := rfl
@[simp] theorem q_slot12 {a0 a1 a2 a3 a4 a5 a6 a7 a8 a9 a10 a11 z : Option DV} {r : En} : slotOf (a0 :: a1 :: a2 :: a3 :: a4 :: a5 :: a6 :: a7 :: a8 :: a9 :: a10 :: a11 :: z :: r) 12 = z := rfl
@[simp] theorem q_slot13 {a0 a1 a2 a3 a4 a5 a6 a7 a8 a9 a10 a11 a12 z : Option DV} {r : En} : slotOf (a0 :: a1 :: a2 :: a3 :: a4 :: a5 :: a6 :: a7 :: a8 :: a9 :: a10 :: a11 :: a12 :: z :: r) 13 = z := rfl
@[simp] theorem q_slot14 {a0 a1 a2 a3 a4 a5 a6 a7 a8 a9 a10 a11 a12 a13 z : Option DV} {r : En} : slotOf (a0 :: a1 :: a2 :: a3 :: a4 :: a5 :: a6 :: a7 :: a8 :: a9 :: a10 :: a11 :: a12 :: a13 :: z :: r) 14 = z := rfl
@[simp] theorem q_slot15 {a0 a1 a2 a3 a4 a5 a6 a7 a8 a9 a10 a11 a12 a13 a14 z : Option DV} {r : En} : slotOf (a0 :: a1 :: a2 :: a3 :: a4 :: a5 :: a6 :: a7 :: a8 :: a9 :: a10 :: a11 :: a12 :: a13 :: a14 :: z :: r) 15 = z := rfl
@[simp] theorem q_slot16 {a0 a1 a2 a3 a4 a5 a6 a7 a8 a9 a10 a11 a12 a13 a14 a15 z : Option DV} {r : En} : slotOf (a0 :: a1 :: a2 :: a3 :: a4 :: a5 :: a6 :: a7 :: a8 :: a9 :: a10 :: a11 :: a12 :: a13 :: a14 :: a15 :: z :: r) 16 = z := rfl
@[simp] theorem q_slot17 {a0 a1 a2 a3 a4 a5 a6 a7 a8 a9 a10 a11 a12 a13 a14 a15 a16 z : Option DV} {r : En} : slotOf (a0 :: a1 :: a2 :: a3 :: a4 :: a5 :: a6 :: a7 :: a8 :: a9 :: a10 :: a11 :: a12 :: a13 :: a14 :: a15 :: a16 :: z :: r) 17 = z := rfl
@[simp] theorem q_slot18 {a0 a1 a2 a3 a4 a5 a6 a7 a8 a9 a10 a11 a12 a13 a14 a15 a16 a17 z : Option DV} {r : En} : slotOf (a0 :: a1 :: a2 :: a3 :: a4 :: a5 :: a6 :: a7 :: a8 :: a9 :: a10 :: a11 :: a12 :: a13 :: a14 :: a15 :: a16 :: a17 :: z :: r) 18 = z := rfl
@[simp] theorem q_slot19 {a0 a1 a2 a3 a4 a5 a6 a7 a8 a9 a10 a11 a12 a13 a14 a15 a16 a17 a18 z : Option DV} {r : En} : slotOf (a0 :: a1 :: a2 :: a3 :: a4 :: a5 :: a6 :: a7 :: a8 :: a9 :: a10 :: a11 :: a12 :: a13 :: a14 :: a15 :: a16 :: a17 :: a18 :: z :: r) 19 = z := rfl
@[simp] theorem q_var {i : Nat} : wVar i en Q = (match slotOf en i with
  | some x => Q x
  | none => False) := rfl
@[simp] theorem q_C {d : PyData} : wC d en Q = Q (.d d) := rfl
@[simp] theorem q_onD {x : PyData} : onD (.d x) QP = QP x := rfl
@[simp] theorem q_args0 {k : List DV → Prop} : wArgs [] en k = k [] := rfl
@[simp] theorem q_args1 {w : EW} {r : List EW} {k : List DV → Prop} : wArgs (w :: r) en k = w en fun x => wArgs r en fun xs => k (x :: xs) := rfl
@[simp] theorem q_op {f : F2} {a b : EW} : wOp f a b en Q = a en fun x => onD x fun dx => b en fun y => onD y fun dy => f dx dy fun d => Q (.d d) := rfl
@[simp] theorem q_opT {f : F2} {a b : EW} : wOpT f a b en QB = a en fun x => onD x fun dx => b en fun y => onD y fun dy => f dx dy fun d => asB d QB := rfl
@[simp] theorem q_asB {b : Bool} : asB (.bool b) QB = QB b := rfl
@[simp] theorem q_tru {a : EW} : wTru a en QB = a en fun x => truV x QB := rfl
@[simp] theorem q_truV {x : PyData} : truV (.d x) QB = truD x QB := rfl
@[simp] theorem q_truVl {xs : List PyData} : truV (.l xs) QB = QB (!xs.isEmpty) := rfl
@[simp] theorem q_truN : truD .none QB = QB false := rfl
@[simp] theorem q_truB {b : Bool} : truD (.bool b) QB = QB b := rfl
@[simp] theorem q_truI {i : Int} : truD (.int i) QB = QB (i != 0) := rfl
@[simp] theorem q_truL {xs : List PyData} : truD (.list xs) QB = QB (!xs.isEmpty) := rfl
@[simp] theorem q_truT {xs : List PyData} : truD (.tuple xs) QB = QB (!xs.isEmpty) := rfl
@[simp] theorem q_notT {t : TW} : wNotT t en QB = t en fun b => QB (!b) := rfl
@[simp] theorem q_andT {t u : TW} : wAndT t u en QB = t en fun b => match b with
  | true => u en QB
  | false => QB false := rfl
@[simp] theorem q_orT {t u : TW} : wOrT t u en QB = t en fun b => match b with
  | true => QB true
  | false => u en QB := rfl
@[simp] theorem q_not {a : EW} : wNot a en Q = a en fun x => onD x fun d => asB d fun b => Q (.d (.bool (!b))) := rfl
@[simp] theorem q_notV {a : EW} : wNotV a en Q = a en fun x => truV x fun b => Q (.d (.bool (!b))) := rfl
@[simp] theorem q_and {a b : EW} : wAnd a b en Q = a en fun x => onD x fun d => asB d fun k => match k with
  | true => b en Q
  | false => Q (.d (.bool false)) := rfl
@[simp] theorem q_or {a b : EW} : wOr a b en Q = a en fun x => onD x fun d => asB d fun k => match k with
  | true => Q (.d (.bool true))
  | false => b en Q := rfl
@[simp] theorem q_ifE {t : TW} {a b : EW} : wIfE t a b en Q = t en fun k => match k with
  | true => a en Q
  | false => b en Q := rfl
@[simp] theorem q_addI {i j : Int} : addF (.int i) (.int j) QP = QP (.int (i + j)) := rfl
@[simp] theorem q_addS {i j : Str} : addF (.str i) (.str j) QP = (i.length + j.length ≤ sizeLine ∧ QP (.str (i ++ j))) := rfl
@[simp] theorem q_addT {i j : List PyData} : addF (.tuple i) (.tuple j) QP = (i.length + j.length ≤ sizeLine ∧ QP (.tuple (i ++ j))) := rfl
@[simp] theorem q_addL {i j : List PyData} : addF (.list i) (.list j) QP = (i.length + j.length ≤ sizeLine ∧ QP (.list (i ++ j))) := rfl
@[simp] theorem q_sub {i j : Int} : subF (.int i) (.int j) QP = QP (.int (i - j)) := rfl
@[simp] theorem q_mul {i j : Int} : mulF (.int i) (.int j) QP = (CMul i j ∧ QP (.int (i * j))) := rfl
@[simp] theorem q_mod {i j : Int} : modF (.int i) (.int j) QP = (0 < j ∧ QP (.int (i % j))) := rfl
@[simp] theorem q_fdiv {i j : Int} : fdivF (.int i) (.int j) QP = (CDiv i j ∧ QP (.int (i / j))) := rfl
@[simp] theorem q_lt {i j : Int} : ltF (.int i) (.int j) QP = QP (.bool (decide (i < j))) := rfl
@[simp] theorem q_le {i j : Int} : leF (.int i) (.int j) QP = QP (.bool (decide (i ≤ j))) := rfl
@[simp] theorem q_gt {i j : Int} : gtF (.int i) (.int j) QP = QP (.bool (decide (j < i))) := rfl
@[simp] theorem q_ge {i j : Int} : geF (.int i) (.int j) QP = QP (.bool (decide (j ≤ i))) := rfl
@[simp] theorem q_eq {x y : PyData} : eqF x y QP = (min x.depth y.depth ≤ 60 ∧ QP (.bool (PyData.eqv x y))) := rfl
@[simp] theorem q_ne {x y : PyData} : neF x y QP = (min x.depth y.depth ≤ 60 ∧ QP (.bool (!PyData.eqv x y))) := rfl
@[simp] theorem q_inL {x : PyData} {xs : List PyData} : inF x (.list xs) QP = (min (PyData.depthAll xs) x.depth ≤ 60 ∧ QP (.bool (xs.any fun y => PyData.eqv y x))) := by unfold inF; rfl
@[simp] theorem q_inT {x : PyData} {xs : List PyData} : inF x (.tuple xs) QP = (min (PyData.depthAll xs) x.depth ≤ 60 ∧ QP (.bool (xs.any fun y => PyData.eqv y x))) := by unfold inF; rfl
@[simp] theorem q_ninL {x : PyData} {xs : List PyData} : ninF x (.list xs) QP = (min (PyData.depthAll xs) x.depth ≤ 60 ∧ QP (.bool (!xs.any fun y => PyData.eqv y x))) := by unfold ninF; rfl
@[simp] theorem q_ninT {x : PyData} {xs : List PyData} : ninF x (.tuple xs) QP = (min (PyData.depthAll xs) x.depth ≤ 60 ∧ QP (.bool (!xs.any fun y => PyData.eqv y x))) := by unfold ninF; rfl
@[simp] theorem q_asLd {x : PyData} : asL (.d x) = x := rfl
@[simp] theorem q_asLl {x : List PyData} : asL (.l x) = .list x := rfl
@[simp] theorem q_ix {a b : EW} : wIx a b en Q = a en fun x => b en fun y => onD y fun dy => ixF (asL x) dy fun d => Q (.d d) := rfl
@[simp] theorem q_ixL {xs : List PyData} {i : Int} : ixF (.list xs) (.int i) QP = (match atI xs i with
  | some d => QP d
  | none => False) := rfl
@[simp] theorem q_ixT {xs : List PyData} {i : Int} : ixF (.tuple xs) (.int i) QP = (match atI xs i with
  | some d => QP d
  | none => False) := rfl
@[simp] theorem q_ixS {z : Str} {i : Int} : ixF (.str z) (.int i) QP = (z.length ≤ sizeLine ∧ match atI z.cps.toList i with
    | some c => QP (.str ⟨#[c]⟩)
    | none => False) := rfl
theorem atI_nat {α : Type} {xs : List α} {n : Nat} (h : n < xs.length) : atI xs (n : Int) = xs[n]? := by
  have : ixN xs.length (n : Int) = some n := by
    unfold ixN
    have h1 : (0 : Int) ≤ (n : Int) := by omega
    simp
    omega
  unfold atI
  rw [this]
  rfl
@[simp] theorem q_at0 {α : Type} {x : α} {r : List α} : atI (x :: r) 0 = some x := by
  have := atI_nat (xs := x :: r) (n := 0) (by simp)
  simpa using this
@[simp] theorem q_at1 {α : Type} {x y : α} {r : List α} : atI (x :: y :: r) 1 = some y := by
  have := atI_nat (xs := x :: y :: r) (n := 1) (by simp)
  simpa using this
@[simp] theorem q_at2 {α : Type} {x y z : α} {r : List α} : atI (x :: y :: z :: r) 2 = some z := by
  have := atI_nat (xs := x :: y :: z :: r) (n := 2) (by simp)
  simpa using this
@[simp] theorem q_at3 {α : Type} {a x y z : α} {r : List α} : atI (a :: x :: y :: z :: r) 3 = some z := by
  have := atI_nat (xs := a :: x :: y :: z :: r) (n := 3) (by simp)
  simpa using this
@[simp] theorem q_at4 {α : Type} {a b x y z : α} {r : List α} : atI (a :: b :: x :: y :: z :: r) 4 = some z := by
  have := atI_nat (xs := a :: b :: x :: y :: z :: r) (n := 4) (by simp)
  simpa using this
@[simp] theorem q_at5 {α : Type} {a b c x y z : α} {r : List α} : atI (a :: b :: c :: x :: y :: z :: r) 5 = some z := by
  have := atI_nat (xs := a :: b :: c :: x :: y :: z :: r) (n := 5) (by simp)
  simpa using this
@[simp] theorem q_at6 {α : Type} {a b c d x y z : α} {r : List α} : atI (a :: b :: c :: d :: x :: y :: z :: r) 6 = some z := by
  have := atI_nat (xs := a :: b :: c :: d :: x :: y :: z :: r) (n := 6) (by simp)
  simpa using this
@[simp] theorem q_partN {k : Option Int → Prop} : wPart none en k = k none := rfl
@[simp] theorem q_partS {w : EW} {k : Option Int → Prop} : wPart (some w) en k = w en fun x => onD x fun d => match d with
    | .int i => k (some i)
    | _ => False := rfl
@[simp] theorem q_sl {a : EW} {l h : Option EW} : wSl a l h en Q = a en fun x => wPart l en fun lo => wPart h en fun hi => slF (asL x) lo hi fun d => Q (.d d) := rfl
@[simp] theorem q_slL {xs : List PyData} {lo hi : Option Int} : slF (.list xs) lo hi QP = QP (.list (cutD xs lo hi)) := rfl
@[simp] theorem q_slT {xs : List PyData} {lo hi : Option Int} : slF (.tuple xs) lo hi QP = QP (.tuple (cutD xs lo hi)) := rfl
@[simp] theorem q_isN {n : Bool} {a : EW} : wIsN n a en Q = a en fun x => match x with
  | .d d => Q (.d (.bool (n != isNone d)))
  | .l _ => Q (.d (.bool n))
  | .o v => v ≠ .non ∧ Q (.d (.bool n))
  | .p _ => False := rfl
@[simp] theorem q_VT {a : EW} : wVT a en QB = a en fun x => onD x fun d => asB d QB := rfl
@[simp] theorem q_isN1 : isNone .none = true := rfl
@[simp] theorem q_isN2 {xs : List PyData} : isNone (.tuple xs) = false := rfl
@[simp] theorem q_isN3 {xs : Str} : isNone (.str xs) = false := rfl
@[simp] theorem q_isN4 {xs : Int} : isNone (.int xs) = false := rfl
@[simp] theorem q_isN5 {xs : List PyData} : isNone (.list xs) = false := rfl
@[simp] theorem q_allD0 {k : List PyData → Prop} : allD [] k = k [] := rfl
@[simp] theorem q_allD1 {x : PyData} {r : List DV} {k : List PyData → Prop} : allD (.d x :: r) k = allD r fun ds => k (x :: ds) := rfl
@[simp] theorem q_tup {ws : List EW} : wTup ws en Q = wArgs ws en fun xs => allD xs fun ds => Q (.d (.tuple ds)) := rfl
@[simp] theorem q_lst {ws : List EW} : wLst ws en Q = wArgs ws en fun xs => allD xs fun ds => Q (.d (.list ds)) := rfl
@[simp] theorem q_noL {x : PyData} : noL (.d x) = True := rfl
@[simp] theorem q_noLo {x : V} : noL (.o x) = True := rfl
@[simp] theorem q_noLp {x : FP} : noL (.p x) = True := rfl
@[simp] theorem q_noLs0 : noLs [] = True := rfl
@[simp] theorem q_noLs1 {x : DV} {r : List DV} : noLs (x :: r) = (noL x ∧ noLs r) := rfl
@[simp] theorem q_call {sp : SpD} {ws : List EW} : wCall sp ws en Q = wArgs ws en fun xs => noLs xs ∧ sp xs fun x => noL x ∧ Q x := rfl
@[simp] theorem q_blt {g : FB} {ws : List EW} : wBlt g ws en Q = wArgs ws en fun xs => g xs fun d => Q (.d d) := rfl
@[simp] theorem q_one {k : F1} {x : DV} : one k [x] QP = k (asL x) QP := rfl
@[simp] theorem q_two {k : F2} {x y : PyData} : twoB k [.d x, .d y] QP = k x y QP := rfl
@[simp] theorem q_lenL {xs : List PyData} : lenF (.list xs) QP = QP (.int xs.length) := rfl
@[simp] theorem q_lenT {xs : List PyData} : lenF (.tuple xs) QP = QP (.int xs.length) := rfl
@[simp] theorem q_tupL {xs : List PyData} : tupF (.list xs) QP = QP (.tuple xs) := rfl
@[simp] theorem q_tupT {xs : List PyData} : tupF (.tuple xs) QP = QP (.tuple xs) := rfl
@[simp] theorem q_listL {xs : List PyData} : listF (.list xs) QP = QP (.list xs) := rfl
@[simp] theorem q_listT {xs : List PyData} : listF (.tuple xs) QP = QP (.list xs) := rfl
@[simp] theorem q_abs {i : Int} : absF (.int i) QP = QP (.int (if i < 0 then -i else i)) := rfl
@[simp] theorem q_intI {i : Int} : intF (.int i) QP = QP (.int i) := rfl
@[simp] theorem q_intB {b : Bool} : intF (.bool b) QP = QP (.int (if b then 1 else 0)) := rfl
@[simp] theorem q_nil : wNil D en = D.nx en := rfl
@[simp] theorem q_seq {a b : SW} : wSeq a b D en = a (D.sq (b D)) en := rfl
@[simp] theorem q_set {i : Nat} {a : EW} : wSet i a D en = a en fun x => noL x ∧ D.nx (en.set i (some x)) := rfl
@[simp] theorem q_own {i : Nat} {ws : List EW} : wOwn i ws D en = wArgs ws en fun xs => allD xs fun ds => D.nx (en.set i (some (.l ds))) := rfl
@[simp] theorem q_app {i : Nat} {a : EW} : wApp i a D en = (match slotOf en i with
  | some (.l xs) => a en fun y => onD y fun d => xs.length < sizeLine ∧ D.nx (en.set i (some (.l (xs ++ [d]))))
  | _ => False) := rfl
@[simp] theorem q_frz {i : Nat} {w : SW} : wFrz i w D en = (match slotOf en i with
  | some (.l xs) => w D (en.set i (some (.d (.list xs))))
  | _ => False) := rfl
@[simp] theorem q_unLd {x : PyData} : unL (.d x) = .d x := rfl
@[simp] theorem q_unLl {x : List PyData} : unL (.l x) = .d (.list x) := rfl
@[simp] theorem q_unLp {x : FP} : unL (.p x) = .p x := rfl
@[simp] theorem q_ret {a : EW} : wRet a D en = a en fun x => D.rt (unL x) := rfl
@[simp] theorem q_retN : wRetN D en = D.rt (.d .none) := rfl
@[simp] theorem q_drop {a : EW} : wDrop a D en = a en fun _ => D.nx en := rfl
@[simp] theorem q_if {t : TW} {a b : SW} : wIf t a b D en = t en fun k => match k with
  | true => a D en
  | false => b D en := rfl
@[simp] theorem q_brk : wBrk D en = D.bk en := rfl
@[simp] theorem q_cont : wCont D en = D.ct en := rfl
@[simp] theorem q_never : wNever D en = False := rfl
@[simp] theorem q_seqI {a : EW} {k : List PyData → Prop} : wSeqI a en k = a en fun x => onD x fun d => seqF d k := rfl
@[simp] theorem q_seqE {a : EW} {k : List PyData → Prop} : wSeqE a en k = a en fun x => seqF (asL x) k := rfl
@[simp] theorem q_seqL {xs : List PyData} {k : List PyData → Prop} : seqF (.list xs) k = k xs := rfl
@[simp] theorem q_seqT {xs : List PyData} {k : List PyData → Prop} : seqF (.tuple xs) k = k xs := rfl
@[simp] theorem q_rng1 {a : EW} {k : List PyData → Prop} : wRng1 a en k = a en fun x => onD x fun d => match d with
  | .int j => (-(2 ^ 62) ≤ j ∧ j < 2 ^ 62) ∧ k (rngD 0 j.toNat)
  | _ => False := rfl
@[simp] theorem q_for {wi : IW} {g : Tg} {wb : SW} : wFor wi g wb D en = wi en fun xs => loopW g wb D xs en := rfl
@[simp] theorem q_loop0 {g : Tg} {wb : SW} : loopW g wb D [] en = D.nx en := rfl
@[simp] theorem q_loop1 {g : Tg} {wb : SW} {x : PyData} {xs : List PyData} : loopW g wb D (x :: xs) en = (match g.bind x en with
    | some en' => wb (D.lp (loopW g wb D xs)) en'
    | none => False) := rfl
@[simp] theorem q_bindN {i : Nat} {d : PyData} : (Tg.nm i).bind d en = some (en.set i (some (.d d))) := rfl
@[simp] theorem q_bindT {is : List Nat} {ds : List PyData} : (Tg.tp is).bind (.tuple ds) en = bindE is ds en := rfl
@[simp] theorem q_bindE0 : bindE [] [] en = some en := rfl
@[simp] theorem q_bindE1 {i : Nat} {is : List Nat} {d : PyData} {ds : List PyData} : bindE (i :: is) (d :: ds) en = bindE is ds (en.set i (some (.d d))) := rfl
@[simp] theorem q_yes : wYes en QB = QB true := rfl
@[simp] theorem q_lc {wi : IW} {g : Tg} {wt : TW} {we : EW} {vs : List Nat} : wLc wi g wt we vs en Q = wi en fun xs => lcW g wt we xs (wipeE en vs) [] fun ds => Q (.d (.list ds)) := rfl
@[simp] theorem q_setLc {i : Nat} {a : EW} : wSetLc i a D en = wSet i a D en := rfl
@[simp] theorem q_lc2 {wi : IW} {g : Tg} {wt : TW} {wi1 : IW} {g1 : Tg} {wt1 : TW} {we : EW} {vs vs1 : List Nat} : wLc2 wi g wt wi1 g1 wt1 we vs vs1 en Q = wi en fun xs => lcW2 g wt wi1 g1 wt1 we vs1 xs (wipeE en vs) [] fun ds => Q (.d (.list ds)) := rfl
@[simp] theorem q_wipe0 : wipeE en [] = en := rfl
@[simp] theorem q_wipe1 {v : Nat} {vs : List Nat} : wipeE en (v :: vs) = (wipeE en vs).set v none := rfl
@[simp] theorem q_enum {a : EW} {k : List PyData → Prop} : wEnum a en k = a en fun x => seqF (asL x) fun xs => onD x fun _ => k (enumD xs 0) := rfl
@[simp] theorem q_step {a b : EW} : wStep a b en Q = a en fun x => b en fun y => onD y fun dy => stepF (asL x) dy fun d => Q (.d d) := rfl
@[simp] theorem q_neg {a : EW} : wNeg a en Q = a en fun x => onD x fun d => negF d fun d => Q (.d d) := rfl
@[simp] theorem q_unp {g : Tg} {a : EW} : wUnp g a D en = a en fun x => onD x fun d => match g.bind d en with
  | some en' => D.nx en'
  | none => False := rfl
@[simp] theorem q_par {i j : Nat} {ws : List EW} : wPar i j ws D en = wArgs ws en fun xs => match xs with
  | [x, y] => noL x ∧ noL y ∧ D.nx ((en.set i (some x)).set j (some y))
  | _ => False := rfl
@[simp] theorem q_pass : wPass D en = D.nx en := rfl
@[simp] theorem q_ext {i : Nat} {a : EW} : wExt i a D en = (match slotOf en i with
  | some (.l xs) => a en fun y => onD y fun d => match d with
    | .list ys => xs.length + ys.length ≤ sizeLine ∧ D.nx (en.set i (some (.l (xs ++ ys))))
    | _ => False
  | _ => False) := rfl
@[simp] theorem q_isi {ty : String} {a : EW} : wIsi ty a en Q = a en fun x => onD x fun d => match (tyD d).bind fun t => kitB t ty with
  | some b => Q (.d (.bool b))
  | none => False := rfl
@[simp] theorem q_wix {tab : List (Str × Str)} {b : EW} : wWix tab b en Q = b en fun y => onD y fun dy => match dy with
  | .str s => match tab.lookup s with
    | some z => Q (.d (.str z))
    | none => False
  | _ => False := rfl
@[simp] theorem q_any : wAny en Q = Q (.p FPany) := rfl
@[simp] theorem q_fld {K : PySem.W.Frag} {a : EW} {f : Str} : wFld K a f en Q = a en fun x => match x with
  | .p P => ∃ y, FldP K P f y ∧ Q y
  | _ => False := rfl
@[simp] theorem q_meth {C : Addr} {m : Str} {sp : SpD} {a : EW} {ws : List EW} : wMeth C m sp a ws en Q = a en fun x => match x with
  | .p P => InsP P C m ∧ wArgs ws en fun xs => noLs xs ∧ sp (.p P :: xs) fun y => noL y ∧ Q y
  | _ => False := rfl
end

/-! ### loops over typed lists -/
section
variable {α : Type} {g : Tg}
/-- a comprehension, item by item -/
theorem lcW_fm {wt : TW} {we : EW} (enc : α → PyData) (f : α → Option PyData) {en : En} {k : List PyData → Prop} : ∀ (l : List α) (acc : List PyData),
    (∀ a ∈ l, ∀ Q : Option PyData → Prop, Q (f a) → match g.bind (enc a) en with
      | some en' => wt en' fun b => match b with
        | true => we en' fun y => onD y fun d => Q (some d)
        | false => Q none
      | none => False) → acc.length + l.length ≤ sizeLine → k (acc ++ l.filterMap f) → lcW g wt we (l.map enc) en acc k
  | [], acc, _, _, hk => by simpa [lcW] using hk
  | a :: l, acc, h, hl, hk => by
    have hl' : acc.length + (l.length + 1) ≤ sizeLine := hl
    have h1 := h a (by simp) (fun o => match o with
      | some d => acc.length < sizeLine ∧ lcW g wt we (l.map enc) en (acc ++ [d]) k
      | none => lcW g wt we (l.map enc) en acc k) (by
        cases q : f a with
        | none =>
          refine lcW_fm enc f l acc (fun b hb => h b (by simp [hb])) (by omega) ?_
          simpa [List.filterMap_cons, q] using hk
        | some d =>
          refine ⟨by omega, lcW_fm enc f l (acc ++ [d]) (fun b hb => h b (by simp [hb])) (by simp; omega) ?_⟩
          simpa [List.filterMap_cons, q] using hk)
    exact h1
/-- .. without a condition -/
theorem lcW_map {we : EW} (enc : α → PyData) (f : α → PyData) {en : En} {k : List PyData → Prop} (l : List α)
    (h : ∀ a ∈ l, ∀ Q : PyData → Prop, Q (f a) → match g.bind (enc a) en with
      | some en' => we en' fun y => onD y fun d => Q d
      | none => False) (hl : l.length ≤ sizeLine) (hk : k (l.map f)) : lcW g wYes we (l.map enc) en [] k := by
  refine lcW_fm enc (fun a => some (f a)) l [] (fun a ha Q q => ?_) (by simpa using hl) (by simpa using hk)
  have := h a ha (fun d => Q (some d)) q
  cases e : g.bind (enc a) en with
  | none => rw [e] at this; exact this.elim
  | some en' => rw [e] at this; exact this
/-- .. of the items themselves, by a condition -/
theorem lcW_filter {wt : TW} {we : EW} (enc : α → PyData) (p : α → Bool) {en : En} {k : List PyData → Prop} (l : List α)
    (h : ∀ a ∈ l, ∀ Q : Option PyData → Prop, Q (if p a then some (enc a) else none) → match g.bind (enc a) en with
      | some en' => wt en' fun b => match b with
        | true => we en' fun y => onD y fun d => Q (some d)
        | false => Q none
      | none => False) (hl : l.length ≤ sizeLine) (hk : k ((l.filter p).map enc)) : lcW g wt we (l.map enc) en [] k := by
  refine lcW_fm enc (fun a => if p a then some (enc a) else none) l [] h (by simpa using hl) ?_
  have e : l.filterMap (fun a => if p a = true then some (enc a) else none) = (l.filter p).map enc := by
    clear h hl hk
    induction l with
    | nil => rfl
    | cons a l ih =>
      by_cases q : p a = true
      · simp [List.filterMap_cons, List.filter_cons, q, ih]
      · simp [List.filterMap_cons, List.filter_cons, q, ih]
  rw [e]
  simpa using hk
end
end DL

set_option maxRecDepth 100000
set_option maxHeartbeats 4000000
namespace K85
open PySem L2 DL
/-! ### the typed model -/
inductive Tm where
  | f (n : Nat)
  | b (n : Nat)
  | c (z : Int)
deriving DecidableEq
structure Lk where
  eq : Bool
  fld : Nat
  tm : Tm
deriving DecidableEq
abbrev Lot := List Lk
structure Win where
  tbl : Str
  lots : List Lot
  shown : List Nat
structure Rol where
  name : Str
  badge : List Str
  wins : List Win
structure Tbl where
  name : Str
  flds : List Str
structure Ask where
  name : Str
  role : Str
  tbl : Str
structure App where
  tabs : List Tbl
  rols : List Rol
  asks : List Ask
def eSg (b : Bool) : PyData := .str (if b then "=" else "!")
def eTm : Tm → PyData
  | .f n => .tuple [.str "f", .int n]
  | .b n => .tuple [.str "b", .int n]
  | .c z => .tuple [.str "c", .int z]
def eLk (l : Lk) : PyData := .tuple [eSg l.eq, .int l.fld, eTm l.tm]
def eLot (l : Lot) : PyData := .tuple (l.map eLk)
def eInt (n : Nat) : PyData := .int n
def eWin (w : Win) : PyData := .tuple [.str w.tbl, .tuple (w.lots.map eLot), .tuple (w.shown.map eInt)]
def eRol (r : Rol) : PyData := .tuple [.str r.name, .tuple (r.badge.map .str), .tuple (r.wins.map eWin)]
def eTbl (t : Tbl) : PyData := .tuple [.str t.name, .tuple (t.flds.map .str)]
def eAsk (a : Ask) : PyData := .tuple [.str a.name, .str a.role, .tuple [], .tuple [.str a.tbl], .none, .tuple [], .tuple [.str "count"]]
def eApp (a : App) : PyData := .tuple [.tuple (a.tabs.map eTbl), .tuple (a.rols.map eRol), .tuple (a.asks.map eAsk), .tuple []]
/-! facts -/
abbrev T := Str × Int
structure Fa where
  eq : Bool
  a : T
  b : T
deriving DecidableEq
def eT (t : T) : PyData := .tuple [.str t.1, .int t.2]
def eFa (f : Fa) : PyData := .tuple [eSg f.eq, eT f.a, eT f.b]
def eFas (f : List Fa) : PyData := .tuple (f.map eFa)
def opp (f : Fa) : Fa := { f with eq := !f.eq }
def lkFa (letter : Str) (l : Lk) : Fa := ⟨l.eq, (letter, l.fld), match l.tm with
  | .f n => (letter, n)
  | .b n => ("v", n)
  | .c z => ("c", z)⟩
def tab_OPPOSITES : List (Str × Str) := [("=", "!"), ("!", "=")]
def tab_OWN : List (Str × Str) := [("p", "a"), ("b", "v")]
/-! simp lemmas of data -/
@[simp] theorem v_str {a b : Str} : PyData.eqv (.str a) (.str b) = (a == b) := by simp [PyData.eqv]
@[simp] theorem v_int {a b : Int} : PyData.eqv (.int a) (.int b) = (a == b) := by simp [PyData.eqv]
@[simp] theorem v_bool {a b : Bool} : PyData.eqv (.bool a) (.bool b) = (a == b) := by simp [PyData.eqv]
@[simp] theorem d_str {a : Str} : PyData.depth (.str a) = 0 := by simp [PyData.depth]
@[simp] theorem d_int {a : Int} : PyData.depth (.int a) = 0 := by simp [PyData.depth]
@[simp] theorem d_bool {a : Bool} : PyData.depth (.bool a) = 0 := by simp [PyData.depth]
@[simp] theorem sz_eq : sizeLine = 16777216 := sizeLine_eq
theorem eSg_eq (b : Bool) : PyData.eqv (eSg b) (.str "=") = b := by cases b <;> decide
theorem eSg_ne (b : Bool) : PyData.eqv (eSg b) (.str "!") = !b := by cases b <;> decide
/-! ### named -/
/-- rows by names -/
structure Row where
  name : Str
  rest : List PyData
def eRow (r : Row) : PyData := .tuple (.str r.name :: r.rest)
abbrev sp_named : SpD := spV (α := PyData × List Row × Str × Row) (fun a => [.d a.1, .d (.tuple (a.2.1.map eRow)), .d (.str a.2.2.1)]) (fun a => (a.2.1.find? fun r => r.name == a.2.2.1) = some a.2.2.2) (fun a => eRow a.2.2.2)
def w_named : SW :=
    (wSeq (wFor (wSeqI (wVar 1)) (.nm 3)
      (wIf (wOpT eqF (wIx (wVar 3) (wC (.int 0))) (wVar 2)) (wRet (wVar 3)) wNil))
    wNever)
theorem fin_named (xs : List DV) (R : DV → Prop) (h : sp_named xs R) : w_named { nx := fun _ => R (.d .none), rt := R } (startE 4 xs) := by
  obtain ⟨⟨k, rs, n, r0⟩, rfl, hp, hR⟩ := h
  simp only at hp hR
  simp [w_named, startE]
  generalize (none : Option DV) = t
  generalize some (DV.d (PyData.tuple (List.map eRow rs))) = s1
  induction rs generalizing t with
  | nil => simp at hp
  | cons r rs ih =>
    simp [eRow]
    by_cases q : r.name = n
    · have q' : (r.name == n) = true := by simpa using q
      simp only [List.find?_cons, q'] at hp
      cases hp
      rw [q']
      exact hR
    · have q' : (r.name == n) = false := by simpa using q
      simp only [List.find?_cons, q'] at hp
      rw [q']
      exact ih hp _
theorem rows_of {α : Type} (f : α → Row) (enc : α → PyData) (he : ∀ a, enc a = eRow (f a)) (l : List α) : l.map enc = (l.map f).map eRow := by
  rw [List.map_map]; exact List.map_congr_left fun a _ => he a
theorem find_rows {α : Type} (f : α → Row) (l : List α) (n : Str) {a : α} (h : (l.find? fun a => (f a).name == n) = some a) : ((l.map f).find? fun r => r.name == n) = some (f a) := by
  induction l with
  | nil => simp at h
  | cons b l ih =>
    rw [List.map_cons, List.find?_cons]
    rw [List.find?_cons] at h
    by_cases q : ((f b).name == n) = true
    · rw [q] at h ⊢; cases h; rfl
    · have q' : ((f b).name == n) = false := by simpa using q
      rw [q'] at h ⊢; exact ih h
/-- a named row among typed ones -/
theorem named_of {α : Type} (f : α → Row) (enc : α → PyData) (he : ∀ a, enc a = eRow (f a)) {k : PyData} {l : List α} {n : Str} {a : α} {Q : DV → Prop} (h : (l.find? fun a => (f a).name == n) = some a) (q : Q (.d (enc a))) :
    sp_named [.d k, .d (.tuple (l.map enc)), .d (.str n)] Q :=
  ⟨(k, l.map f, n, f a), by rw [rows_of f enc he], find_rows f l n h, by show Q (.d (eRow (f a))); rw [← he]; exact q⟩
def rTbl (t : Tbl) : Row := ⟨t.name, [.tuple (t.flds.map .str)]⟩
def rRol (r : Rol) : Row := ⟨r.name, [.tuple (r.badge.map .str), .tuple (r.wins.map eWin)]⟩
def rAsk (a : Ask) : Row := ⟨a.name, [.str a.role, .tuple [], .tuple [.str a.tbl], .none, .tuple [], .tuple [.str "count"]]⟩
/-! ### table_of, role_of, ask_of, window_of -/
def App.tab (A : App) (n : Str) : Option Tbl := A.tabs.find? fun t => t.name == n
def App.rol (A : App) (n : Str) : Option Rol := A.rols.find? fun t => t.name == n
def App.ask (A : App) (n : Str) : Option Ask := A.asks.find? fun t => t.name == n
def Rol.win (r : Rol) (n : Str) : Option Win := r.wins.find? fun t => t.tbl == n
def eOpt {α : Type} (f : α → PyData) : Option α → PyData
  | some a => f a
  | none => .none
abbrev sp_table_of : SpD := spV (α := App × Str × Tbl) (fun a => [.d (eApp a.1), .d (.str a.2.1)]) (fun a => a.1.tab a.2.1 = some a.2.2) (fun a => eTbl a.2.2)
abbrev sp_role_of : SpD := spV (α := App × Str × Rol) (fun a => [.d (eApp a.1), .d (.str a.2.1)]) (fun a => a.1.rol a.2.1 = some a.2.2) (fun a => eRol a.2.2)
abbrev sp_ask_of : SpD := spV (α := App × Str × Ask) (fun a => [.d (eApp a.1), .d (.str a.2.1)]) (fun a => a.1.ask a.2.1 = some a.2.2) (fun a => eAsk a.2.2)
abbrev sp_window_of : SpD := spV (α := App × Str × Str × Rol × Tbl) (fun a => [.d (eApp a.1), .d (.str a.2.1), .d (.str a.2.2.1)]) (fun a => a.1.rol a.2.1 = some a.2.2.2.1 ∧ a.1.tab a.2.2.1 = some a.2.2.2.2) (fun a => eOpt eWin (a.2.2.2.1.win a.2.2.1))
def w_table_of : SW :=
    (wRet (wCall sp_named [(wC (.str "table")), (wIx (wVar 0) (wC (.int 0))), (wVar 1)]))
def w_role_of : SW :=
    (wRet (wCall sp_named [(wC (.str "role")), (wIx (wVar 0) (wC (.int 1))), (wVar 1)]))
def w_ask_of : SW :=
    (wRet (wCall sp_named [(wC (.str "ask")), (wIx (wVar 0) (wC (.int 2))), (wVar 1)]))
def w_window_of : SW :=
    (wSeq (wSet 3 (wIx (wCall sp_role_of [(wVar 0), (wVar 1)]) (wC (.int 2))))
    (wSeq (wDrop (wCall sp_table_of [(wVar 0), (wVar 2)]))
    (wSeq (wFor (wSeqI (wVar 3)) (.nm 4)
      (wIf (wOpT eqF (wIx (wVar 4) (wC (.int 0))) (wVar 2)) (wRet (wVar 4)) wNil))
    (wRet (wC .none)))))
theorem fin_table_of (xs : List DV) (R : DV → Prop) (h : sp_table_of xs R) : w_table_of { nx := fun _ => R (.d .none), rt := R } (startE 2 xs) := by
  obtain ⟨⟨A, n, t⟩, rfl, hp, hR⟩ := h
  simp only at hp hR
  simp [w_table_of, startE, eApp]
  exact named_of rTbl eTbl (fun _ => rfl) hp ⟨trivial, hR⟩
theorem fin_role_of (xs : List DV) (R : DV → Prop) (h : sp_role_of xs R) : w_role_of { nx := fun _ => R (.d .none), rt := R } (startE 2 xs) := by
  obtain ⟨⟨A, n, t⟩, rfl, hp, hR⟩ := h
  simp only at hp hR
  simp [w_role_of, startE, eApp]
  exact named_of rRol eRol (fun _ => rfl) hp ⟨trivial, hR⟩
theorem fin_ask_of (xs : List DV) (R : DV → Prop) (h : sp_ask_of xs R) : w_ask_of { nx := fun _ => R (.d .none), rt := R } (startE 2 xs) := by
  obtain ⟨⟨A, n, t⟩, rfl, hp, hR⟩ := h
  simp only at hp hR
  simp [w_ask_of, startE, eApp]
  exact named_of rAsk eAsk (fun _ => rfl) hp ⟨trivial, hR⟩
theorem fin_window_of (xs : List DV) (R : DV → Prop) (h : sp_window_of xs R) : w_window_of { nx := fun _ => R (.d .none), rt := R } (startE 5 xs) := by
  obtain ⟨⟨A, r, n, rl, tb⟩, rfl, ⟨h1, h2⟩, hR⟩ := h
  simp only at h1 h2 hR
  simp [w_window_of, startE]
  refine ⟨(A, r, rl), rfl, h1, trivial, ?_⟩
  simp [eRol]
  refine ⟨(A, n, tb), rfl, h2, trivial, ?_⟩
  unfold Rol.win at hR
  generalize (none : Option DV) = t
  generalize some (DV.d (PyData.tuple (List.map eWin rl.wins))) = s1
  generalize rl.wins = ws at hR ⊢
  induction ws generalizing t with
  | nil => simpa [eOpt] using hR
  | cons w ws ih =>
    simp [eWin]
    rw [List.find?_cons] at hR
    cases q : (w.tbl == n) with
    | true =>
      rw [q] at hR
      have := eq_of_beq q
      exact hR
    | false =>
      rw [q] at hR
      exact ih _ hR
end K85

set_option maxRecDepth 100000
set_option maxHeartbeats 4000000
namespace K85
open PySem L2 DL
/-! ### small ones -/
abbrev sp_table_place : SpD := spV (α := App × Str × Nat) (fun a => [.d (eApp a.1), .d (.str a.2.1)]) (fun a => (a.1.tabs.findIdx? fun t => t.name == a.2.1) = some a.2.2 ∧ (∀ t ∈ a.1.tabs, PyData.strOk t.name = true) ∧ PyData.strOk a.2.1 = true ∧ a.1.tabs.length ≤ 100) (fun a => .int a.2.2)
/-! table_place(app, table): slots 0 app, 1 table, 2 row; calls  -/
def w_table_place : SW :=
    (wRet (wIndex (wLc (wSeqE (wIx (wVar 0) (wC (.int 0)))) (.nm 2) wYes (wIx (wVar 2) (wC (.int 0))) [2]) (wVar 1)))
theorem fin_table_place (xs : List DV) (R : DV → Prop) (h : sp_table_place xs R) : w_table_place { nx := fun _ => R (.d .none), rt := R } (startE 3 xs) := by
  obtain ⟨⟨A, n, j⟩, rfl, ⟨h1, h2, h3, h4⟩, hR⟩ := h
  simp only at h1 h2 h3 h4 hR
  simp [w_table_place, startE, eApp, wIndex]
  refine lcW_map eTbl (fun t => .str t.name) _ (fun t _ Q q => by simpa [eTbl] using q) (by simp; omega) ?_
  show (SeqAt.shaped (.list (A.tabs.map fun t => PyData.str t.name)) = true ∧ SeqAt.shaped (.str n) = true) ∧ _
  refine ⟨⟨?_, ?_⟩, ?_⟩
  · have h5 : ∀ l : List Tbl, (∀ t ∈ l, PyData.strOk t.name = true) → PyData.canLayAll0 (l.map fun t => PyData.str t.name) = true ∧ PyData.depthAll (l.map fun t => PyData.str t.name) = 0 := by
      intro l hl
      induction l with
      | nil => simp [PyData.canLayAll0, PyData.depthAll]
      | cons t l ih =>
        have := ih fun t ht => hl t (by simp [ht])
        simp [PyData.canLayAll0, PyData.depthAll, PyData.canLay0, this.1, this.2, hl t (by simp)]
    have := h5 _ h2
    simp [SeqAt.shaped, PyData.canLay0, PyData.depth, this.1, this.2]
  · simp [SeqAt.shaped, PyData.canLay0, h3]
  · have e : idxD (A.tabs.map fun t => PyData.str t.name) (.str n) = some j := by
      unfold idxD
      rw [List.findIdx?_map]
      rw [← h1]
      congr 1
    rw [e]
    exact hR
abbrev sp_ask_tables : SpD := spV (α := Ask) (fun a => [.d (eAsk a)]) (fun _ => True) (fun a => .tuple [.str a.tbl])
/-! ask_tables(ask): slots 0 ask; calls  -/
def w_ask_tables : SW :=
    (wRet (wOp addF (wIx (wVar 0) (wC (.int 3))) (wIfE (wVT (wIsN false (wIx (wVar 0) (wC (.int 4))))) (wTup []) (wTup [(wIx (wVar 0) (wC (.int 4)))]))))
theorem fin_ask_tables (xs : List DV) (R : DV → Prop) (h : sp_ask_tables xs R) : w_ask_tables { nx := fun _ => R (.d .none), rt := R } (startE 1 xs) := by
  obtain ⟨a, rfl, -, hR⟩ := h
  simpa [w_ask_tables, startE, eAsk] using hR
abbrev sp_told_fields : SpD := spV (α := Unit) (fun a => [.d (.tuple [.str "count"])]) (fun _ => True) (fun a => .tuple [])
/-! told_fields(told): slots 0 told; calls  -/
def w_told_fields : SW :=
    (wSeq (wIf (wOpT eqF (wIx (wVar 0) (wC (.int 0))) (wC (.str "sum"))) (wRet (wTup [(wIx (wVar 0) (wC (.int 1)))])) wNil)
    (wRet (wIfE (wOpT eqF (wIx (wVar 0) (wC (.int 0))) (wC (.str "list"))) (wIx (wVar 0) (wC (.int 1))) (wTup []))))
theorem fin_told_fields (xs : List DV) (R : DV → Prop) (h : sp_told_fields xs R) : w_told_fields { nx := fun _ => R (.d .none), rt := R } (startE 1 xs) := by
  obtain ⟨a, rfl, -, hR⟩ := h
  simp [w_told_fields, startE, show (("count" : Str) == "sum") = false by decide, show (("count" : Str) == "list") = false by decide]
  exact hR
/-- not called, as there are no literals -/
abbrev sp_literal_parts : SpD := spV (α := Empty) (fun a => a.elim) (fun _ => True) (fun a => a.elim)
abbrev sp_plain_literals : SpD := spV (α := Ask) (fun a => [.d (eAsk a)]) (fun _ => True) (fun a => .list [])
abbrev sp_beside_literals : SpD := spV (α := Ask) (fun a => [.d (eAsk a)]) (fun _ => True) (fun a => .list [])
/-! plain_literals(ask): slots 0 ask, 1 at, 2 literal; calls literal_parts -/
def w_plain_literals : SW :=
    (wRet (wLc (wEnum (wIx (wVar 0) (wC (.int 5)))) (.tp [1, 2]) (wOpT ninF (wBlt (one lenF) [(wIx (wVar 0) (wC (.int 3)))]) (wCall sp_literal_parts [(wVar 2)])) (wVar 1) [1, 2]))
/-! beside_literals(ask): slots 0 ask, 1 at, 2 literal; calls literal_parts -/
def w_beside_literals : SW :=
    (wRet (wLc (wEnum (wIx (wVar 0) (wC (.int 5)))) (.tp [1, 2]) (wOpT inF (wBlt (one lenF) [(wIx (wVar 0) (wC (.int 3)))]) (wCall sp_literal_parts [(wVar 2)])) (wVar 1) [1, 2]))
theorem fin_plain_literals (xs : List DV) (R : DV → Prop) (h : sp_plain_literals xs R) : w_plain_literals { nx := fun _ => R (.d .none), rt := R } (startE 3 xs) := by
  obtain ⟨a, rfl, -, hR⟩ := h
  simpa [w_plain_literals, startE, eAsk, enumD, lcW] using hR
theorem fin_beside_literals (xs : List DV) (R : DV → Prop) (h : sp_beside_literals xs R) : w_beside_literals { nx := fun _ => R (.d .none), rt := R } (startE 3 xs) := by
  obtain ⟨a, rfl, -, hR⟩ := h
  simpa [w_beside_literals, startE, eAsk, enumD, lcW] using hR
/-! ### facts of looks -/
abbrev sp_opposite : SpD := spV (α := Fa) (fun f => [.d (eFa f)]) (fun _ => True) (fun f => eFa (opp f))
/-! opposite(fact): slots 0 fact; calls  -/
def w_opposite : SW :=
    (wRet (wTup [(wWix tab_OPPOSITES (wIx (wVar 0) (wC (.int 0)))), (wIx (wVar 0) (wC (.int 1))), (wIx (wVar 0) (wC (.int 2)))]))
theorem fin_opposite (xs : List DV) (R : DV → Prop) (h : sp_opposite xs R) : w_opposite { nx := fun _ => R (.d .none), rt := R } (startE 1 xs) := by
  obtain ⟨⟨e, a, b⟩, rfl, -, hR⟩ := h
  simp only [eFa, opp] at hR
  cases e
  · simp [w_opposite, startE, eFa, eSg, tab_OPPOSITES, List.lookup, show (("!" : Str) == "=") = false by decide]
    simpa [eSg] using hR
  · simp [w_opposite, startE, eFa, eSg, tab_OPPOSITES, List.lookup]
    simpa [eSg] using hR
abbrev sp0_look_fact : SpD := spV (α := Lk × Str) (fun a => [.d (eLk a.1), .d (.str a.2), .d (.str "v")]) (fun _ => True) (fun a => eFa (lkFa a.2 a.1))
abbrev sp_look_fact : SpD := spV (α := Lk × Str) (fun a => [.d (eLk a.1), .d (.str a.2)]) (fun _ => True) (fun a => eFa (lkFa a.2 a.1))
/-! look_fact(look, letter, badge): slots 0 look, 1 letter, 2 badge, 3 sign, 4 field, 5 term; calls  -/
def w_look_fact : SW :=
    (wSeq (wUnp (.tp [3, 4, 5]) (wVar 0))
    (wSeq (wIf (wOpT eqF (wIx (wVar 5) (wC (.int 0))) (wC (.str "f"))) (wRet (wTup [(wVar 3), (wTup [(wVar 1), (wVar 4)]), (wTup [(wVar 1), (wIx (wVar 5) (wC (.int 1)))])])) wNil)
    (wSeq (wIf (wOpT eqF (wIx (wVar 5) (wC (.int 0))) (wC (.str "b"))) (wRet (wTup [(wVar 3), (wTup [(wVar 1), (wVar 4)]), (wTup [(wVar 2), (wIx (wVar 5) (wC (.int 1)))])])) wNil)
    (wRet (wTup [(wVar 3), (wTup [(wVar 1), (wVar 4)]), (wIfE (wOpT eqF (wIx (wVar 5) (wC (.int 0))) (wC (.str "p"))) (wTup [(wC (.str "a")), (wIx (wVar 5) (wC (.int 1)))]) (wVar 5))])))))
theorem fin_look_fact (xs : List DV) (R : DV → Prop) (h : sp0_look_fact xs R) : w_look_fact { nx := fun _ => R (.d .none), rt := R } (startE 6 xs) := by
  obtain ⟨⟨⟨e, n, t⟩, z⟩, rfl, -, hR⟩ := h
  cases t
  · simpa [w_look_fact, startE, eLk, eTm, eFa, lkFa, eT] using hR
  · simpa [w_look_fact, startE, eLk, eTm, eFa, lkFa, eT, show (("b" : Str) == "f") = false by decide] using hR
  · simpa [w_look_fact, startE, eLk, eTm, eFa, lkFa, eT, show (("c" : Str) == "f") = false by decide, show (("c" : Str) == "b") = false by decide, show (("c" : Str) == "p") = false by decide] using hR
abbrev sp_lot_facts : SpD := spV (α := Lot) (fun l => [.d (eLot l)]) (fun l => l.length ≤ 1000) (fun l => eFas (l.map (lkFa "n")))
/-! lot_facts(lot): slots 0 lot, 1 look; calls look_fact -/
def w_lot_facts : SW :=
    (wRet (wBlt (one tupF) [(wLc (wSeqE (wVar 0)) (.nm 1) wYes (wCall sp_look_fact [(wVar 1), (wC (.str "n"))]) [1])]))
theorem fin_lot_facts (xs : List DV) (R : DV → Prop) (h : sp_lot_facts xs R) : w_lot_facts { nx := fun _ => R (.d .none), rt := R } (startE 2 xs) := by
  obtain ⟨l, rfl, hl, hR⟩ := h
  simp [w_lot_facts, startE, eLot]
  refine lcW_map eLk (fun k => eFa (lkFa "n" k)) _ (fun k _ Q q => ?_) (by simp; omega) ?_
  · simp
    exact ⟨(k, "n"), rfl, trivial, trivial, q⟩
  · simpa [eFas, List.map_map, Function.comp_def] using hR
/-! ### products of lots -/
def eFls (l : List (List Fa)) : PyData := .tuple (l.map eFas)
def bothL (a b : List (List Fa)) : List (List Fa) := a.flatMap fun f => b.map fun s => f ++ s
def prodL (rows : List (List (List Fa))) : List (List Fa) := rows.foldl bothL [[]]
abbrev sp_both_lots : SpD := spV (α := List (List Fa) × List (List Fa)) (fun a => [.d (eFls a.1), .d (eFls a.2)]) (fun a => a.1.length ≤ 1000 ∧ a.2.length ≤ 1000 ∧ (∀ f ∈ a.1, f.length ≤ 1000) ∧ ∀ f ∈ a.2, f.length ≤ 1000) (fun a => eFls (bothL a.1 a.2))
/-! both_lots(one, other): slots 0 one, 1 other, 2 first, 3 second; calls  -/
def w_both_lots : SW :=
    (wRet (wBlt (one tupF) [(wLc2 (wSeqE (wVar 0)) (.nm 2) wYes (wSeqI (wVar 1)) (.nm 3) wYes (wOp addF (wVar 2) (wVar 3)) [2, 3] [3])]))
theorem fin_both_lots (xs : List DV) (R : DV → Prop) (h : sp_both_lots xs R) : w_both_lots { nx := fun _ => R (.d .none), rt := R } (startE 4 xs) := by
  obtain ⟨⟨a, b⟩, rfl, ⟨h1, h2, h3, h4⟩, hR⟩ := h
  simp only at h1 h2 h3 h4 hR
  simp [w_both_lots, startE, eFls]
  have main : ∀ (a' : List (List Fa)) (acc : List PyData) (s : Option DV) (k : List PyData → Prop), (∀ f ∈ a', f.length ≤ 1000) → acc.length + a'.length * b.length ≤ 16777216 → k (acc ++ (bothL a' b).map eFas) →
      lcW2 (.nm 2) wYes (wSeqI (wVar 1)) (.nm 3) wYes (wOp addF (wVar 2) (wVar 3)) [3] (a'.map eFas) [s, some (.d (.tuple (b.map eFas))), none, none] acc k := by
    intro a'
    induction a' with
    | nil => intro acc s k _ _ hk; simpa [lcW2, bothL] using hk
    | cons f a' ih =>
      intro acc s k hf hl hk
      simp [lcW2]
      rw [List.length_cons, Nat.add_mul] at hl
      refine lcW_fm (wt := wYes) eFas (fun t => some (eFas (f ++ t))) b acc (fun t ht Q q => ?_) (by simp; omega) ?_
      · have g1 := hf f (by simp)
        have g2 := h4 t ht
        simp [eFas]
        exact ⟨by omega, by simpa [eFas] using q⟩
      · refine ih _ _ _ (fun f hf' => hf f (by simp [hf'])) (by simp; omega) ?_
        simpa [bothL, List.map_map, Function.comp_def] using hk
  refine main a [] _ _ h3 (by simp; exact Nat.le_trans (Nat.mul_le_mul h1 h2) (by decide)) ?_
  simpa [eFls] using hR
abbrev sp_all_lots : SpD := spV (α := List (List (List Fa))) (fun a => [.d (.list (a.map eFls))]) (fun a => a.length ≤ 2 ∧ ∀ r ∈ a, r.length ≤ 30 ∧ ∀ f ∈ r, f.length ≤ 10) (fun a => eFls (prodL a))
/-! all_lots(rows): slots 0 rows, 1 told, 2 lots; calls both_lots -/
def w_all_lots : SW :=
    (wSeq (wSet 1 (wTup [(wTup [])]))
    (wSeq (wFor (wSeqI (wVar 0)) (.nm 2)
      (wSet 1 (wCall sp_both_lots [(wVar 1), (wVar 2)])))
    (wRet (wVar 1))))
theorem bothL_len (a b : List (List Fa)) : (bothL a b).length = a.length * b.length := by
  induction a with
  | nil => simp [bothL]
  | cons x a ih => simp [bothL] at ih ⊢; rw [ih, Nat.add_mul]; omega
theorem bothL_in {a b : List (List Fa)} {n m : Nat} (ha : ∀ f ∈ a, f.length ≤ n) (hb : ∀ f ∈ b, f.length ≤ m) : ∀ f ∈ bothL a b, f.length ≤ n + m := by
  intro f hf
  simp [bothL] at hf
  obtain ⟨x, hx, y, hy, rfl⟩ := hf
  have := ha x hx
  have := hb y hy
  simp; omega
theorem fin_all_lots (xs : List DV) (R : DV → Prop) (h : sp_all_lots xs R) : w_all_lots { nx := fun _ => R (.d .none), rt := R } (startE 3 xs) := by
  obtain ⟨a, rfl, ⟨h1, h2⟩, hR⟩ := h
  simp only at h1 h2 hR
  have e0 : PyData.tuple [PyData.tuple []] = eFls [[]] := rfl
  match a, h1, h2 with
  | [], _, _ => simpa [w_all_lots, startE, prodL, e0] using hR
  | [r], _, h2 =>
    have g1 := h2 r (by simp)
    simp [w_all_lots, startE, e0]
    refine ⟨([[]], r), rfl, ⟨by simp, by show r.length ≤ 1000; omega, by simp, fun f hf => by have := g1.2 f hf; omega⟩, trivial, ?_⟩
    exact hR
  | [r, q], _, h2 =>
    have g1 := h2 r (by simp)
    have g2 := h2 q (by simp)
    simp [w_all_lots, startE, e0]
    refine ⟨([[]], r), rfl, ⟨by simp, by show r.length ≤ 1000; omega, by simp, fun f hf => by have := g1.2 f hf; omega⟩, trivial, ?_⟩
    refine ⟨(bothL [[]] r, q), rfl, ⟨by rw [bothL_len]; simp; omega, by show q.length ≤ 1000; omega, fun f hf => ?_, fun f hf => by have := g2.2 f hf; omega⟩, trivial, ?_⟩
    · have := bothL_in (a := [[]]) (b := r) (n := 0) (m := 10) (by simp) g1.2 f hf
      omega
    · exact hR
end K85

set_option maxRecDepth 100000
set_option maxHeartbeats 4000000
namespace K85
open PySem L2 DL
/-! ### facts that can hold together: by lots of terms that are joined -/
def addT (lots : List (List T)) (t : T) : List (List T) := if lots.any (fun l => decide (t ∈ l)) then lots else lots ++ [[t]]
def lots0 (fs : List Fa) : List (List T) := fs.foldl (fun l f => addT (addT l f.a) f.b) []
def joinF (lots : List (List T)) (f : Fa) : List (List T) := if f.eq then (lots.filter fun l => !decide (f.a ∈ l) && !decide (f.b ∈ l)) ++ [(lots.filter fun l => decide (f.a ∈ l) || decide (f.b ∈ l)).flatten] else lots
def lots1 (fs : List Fa) : List (List T) := fs.foldl joinF (lots0 fs)
def isC (t : T) : Bool := t.1 == "c"
def okLot (fs : List Fa) (l : List T) : Bool := decide ((l.filter isC).length ≤ 1) && fs.all fun f => f.eq || !decide (f.a ∈ l) || !decide (f.b ∈ l)
def canB (fs : List Fa) : Bool := (lots1 fs).all (okLot fs)
abbrev sp_can_hold : SpD := spV (α := List Fa) (fun f => [.d (eFas f)]) (fun f => f.length ≤ 1000) (fun f => .bool (canB f))
/-! ### idle windows, spare lots -/
def sq (b : Bool) (xs : List PyData) : PyData := if b then .list xs else .tuple xs
abbrev sp_some_holds : SpD := spV (α := Bool × List (List Fa)) (fun a => [.d (sq a.1 (a.2.map eFas))]) (fun a => ∀ f ∈ a.2, f.length ≤ 1000) (fun a => .bool (a.2.any canB))
/-! some_holds(lots): slots 0 lots, 1 lot; calls can_hold -/
def w_some_holds : SW :=
    (wSeq (wFor (wSeqI (wVar 0)) (.nm 1)
      (wIf (wTru (wCall sp_can_hold [(wVar 1)])) (wRet (wC (.bool true))) wNil))
    (wRet (wC (.bool false))))
theorem fin_some_holds (xs : List DV) (R : DV → Prop) (h : sp_some_holds xs R) : w_some_holds { nx := fun _ => R (.d .none), rt := R } (startE 2 xs) := by
  obtain ⟨⟨k, l⟩, rfl, hl, hR⟩ := h
  simp only at hl hR
  have main : ∀ (s t : Option DV), l.any canB = l.any canB → loopW (.nm 1) (wIf (wTru (wCall sp_can_hold [(wVar 1)])) (wRet (wC (.bool true))) wNil) { nx := fun _ => R (.d (.bool false)), rt := R } (l.map eFas) [s, t] := by
    induction l with
    | nil => intro s t _; simpa using hR
    | cons f l ih =>
      intro s t _
      simp
      refine ⟨f, rfl, hl f (by simp), trivial, ?_⟩
      simp
      cases q : canB f with
      | true => simpa [q] using hR
      | false => exact ih (fun f hf => hl f (by simp [hf])) (by simpa [q] using hR) _ _ rfl
  cases k
  · simp [w_some_holds, startE, sq]
    exact main _ _ rfl
  · simp [w_some_holds, startE, sq]
    exact main _ _ rfl
theorem filter_isEmpty {α : Type} (p : α → Bool) : ∀ l : List α, (l.filter p).isEmpty = !(l.any p)
  | [] => rfl
  | a :: l => by
    have ih := filter_isEmpty p l
    cases q : p a <;> simp [List.filter_cons, q, ih]
def lotN (l : Lot) : List Fa := l.map (lkFa "n")
def idleB (w : Win) : Bool := !(w.lots.any fun l => canB (lotN l))
abbrev sp_is_idle : SpD := spV (α := Win) (fun w => [.d (eWin w)]) (fun w => w.lots.length ≤ 1000 ∧ ∀ l ∈ w.lots, l.length ≤ 1000) (fun w => .bool (idleB w))
/-! is_idle(window): slots 0 window, 1 lot; calls lot_facts, some_holds -/
def w_is_idle : SW :=
    (wRet (wNotV (wCall sp_some_holds [(wLc (wSeqE (wIx (wVar 0) (wC (.int 1)))) (.nm 1) wYes (wCall sp_lot_facts [(wVar 1)]) [1])])))
theorem fin_is_idle (xs : List DV) (R : DV → Prop) (h : sp_is_idle xs R) : w_is_idle { nx := fun _ => R (.d .none), rt := R } (startE 2 xs) := by
  obtain ⟨w, rfl, ⟨h1, h2⟩, hR⟩ := h
  simp only at h1 h2 hR
  simp [w_is_idle, startE, eWin]
  refine lcW_map eLot (fun l => eFas (lotN l)) _ (fun l hl Q q => ?_) (by simp; omega) ?_
  · simp
    exact ⟨l, rfl, h2 l hl, trivial, q⟩
  · refine ⟨(true, w.lots.map lotN), by simp [sq, List.map_map, Function.comp_def], fun f hf => ?_, trivial, ?_⟩
    · simp at hf
      obtain ⟨l, hl, rfl⟩ := hf
      simpa [lotN] using h2 l hl
    · simpa [idleB, List.any_map, Function.comp_def] using hR
def liesB (one other : Lot) : Bool := !(other.any fun k => canB (lotN one ++ [opp (lkFa "n" k)]))
abbrev sp_lies_in : SpD := spV (α := Lot × Lot) (fun a => [.d (eLot a.1), .d (eLot a.2)]) (fun a => a.1.length ≤ 100 ∧ a.2.length ≤ 100) (fun a => .bool (liesB a.1 a.2))
/-! lies_in(one, other): slots 0 one, 1 other, 2 facts, 3 fact; calls can_hold, lot_facts, opposite -/
def w_lies_in : SW :=
    (wSeq (wSet 2 (wCall sp_lot_facts [(wVar 0)]))
    (wRet (wNotV (wLc (wSeqE (wCall sp_lot_facts [(wVar 1)])) (.nm 3) (wTru (wCall sp_can_hold [(wOp addF (wVar 2) (wTup [(wCall sp_opposite [(wVar 3)])]))])) (wVar 3) [3]))))
theorem fin_lies_in (xs : List DV) (R : DV → Prop) (h : sp_lies_in xs R) : w_lies_in { nx := fun _ => R (.d .none), rt := R } (startE 4 xs) := by
  obtain ⟨⟨a, b⟩, rfl, ⟨h1, h2⟩, hR⟩ := h
  simp only at h1 h2 hR
  simp [w_lies_in, startE]
  refine ⟨a, rfl, by show a.length ≤ 1000; omega, trivial, ?_⟩
  simp
  refine ⟨b, rfl, by show b.length ≤ 1000; omega, trivial, ?_⟩
  simp [eFas]
  have e : (b.map (lkFa "n")).map eFa = b.map fun k => eFa (lkFa "n" k) := by simp [List.map_map, Function.comp_def]
  have := lcW_filter (g := .nm 3) (wt := wTru (wCall sp_can_hold [(wOp addF (wVar 2) (wTup [(wCall sp_opposite [(wVar 3)])]))])) (we := wVar 3) eFa (fun f => canB (lotN a ++ [opp f])) (en := [some (.d (eLot a)), some (.d (eLot b)), some (.d (.tuple ((a.map (lkFa "n")).map eFa))), none])
    (k := fun ds => R (.d (.bool (!(!ds.isEmpty))))) (b.map (lkFa "n")) (fun f hf Q q => ?_) (by simp; omega) ?_
  · simpa using this
  · simp
    refine ⟨f, rfl, trivial, trivial, ?_⟩
    simp
    refine ⟨by omega, lotN a ++ [opp f], by simp [eFas, lotN], by simp [lotN]; omega, trivial, ?_⟩
    simp
    cases z : canB (lotN a ++ [opp f]) with
    | true => simp only [z] at q ⊢; exact q
    | false => simp only [z] at q ⊢; exact q
  · have e2 : (!(!(((b.map (lkFa "n")).filter fun f => canB (lotN a ++ [opp f])).map eFa).isEmpty)) = liesB a b := by
      rw [Bool.not_not, List.isEmpty_map, filter_isEmpty, List.any_map]
      rfl
    rw [e2]
    exact hR
def spareB : List Lot → List Nat
  | [a, b] => if liesB b a then [1] else if liesB a b then [0] else []
  | _ => []
def eNats (l : List Nat) : PyData := .tuple (l.map eInt)
abbrev sp_spare_in : SpD := spV (α := List Lot) (fun a => [.d (.tuple (a.map eLot))]) (fun a => a.length ≤ 2 ∧ ∀ l ∈ a, l.length ≤ 100) (fun a => eNats (spareB a))
/-! spare_in(lots): slots 0 lots, 1 first, 2 second; calls lies_in -/
def w_spare_in : SW :=
    (wSeq (wIf (wOpT ltF (wBlt (one lenF) [(wVar 0)]) (wC (.int 2))) (wRet (wTup [])) wNil)
    (wSeq (wPar 1 2 [(wCall sp_lies_in [(wIx (wVar 0) (wC (.int 0))), (wIx (wVar 0) (wC (.int 1)))]), (wCall sp_lies_in [(wIx (wVar 0) (wC (.int 1))), (wIx (wVar 0) (wC (.int 0)))])])
    (wSeq (wIf (wTru (wVar 2)) (wRet (wTup [(wC (.int 1))])) wNil)
    (wRet (wIfE (wTru (wVar 1)) (wTup [(wC (.int 0))]) (wTup []))))))
theorem fin_spare_in (xs : List DV) (R : DV → Prop) (h : sp_spare_in xs R) : w_spare_in { nx := fun _ => R (.d .none), rt := R } (startE 3 xs) := by
  obtain ⟨a, rfl, ⟨h1, h2⟩, hR⟩ := h
  simp only at h1 h2 hR
  match a, h1, h2 with
  | [], _, _ => simpa [w_spare_in, startE, spareB, eNats] using hR
  | [l], _, _ => simpa [w_spare_in, startE, spareB, eNats] using hR
  | [l, m], _, h2 =>
    have g1 := h2 l (by simp)
    have g2 := h2 m (by simp)
    simp [w_spare_in, startE]
    refine ⟨(l, m), rfl, ⟨g1, g2⟩, trivial, ?_⟩
    refine ⟨(m, l), rfl, ⟨g2, g1⟩, trivial, ?_⟩
    simp
    cases q : liesB m l with
    | true => simpa [spareB, q, eNats, eInt] using hR
    | false =>
      cases z : liesB l m with
      | true => simpa [spareB, q, z, eNats, eInt] using hR
      | false => simpa [spareB, q, z, eNats, eInt] using hR
end K85

set_option maxHeartbeats 4000000
namespace K85
open PySem
/-! ### when facts can hold together -/
/-- a valuation of the terms: constants stand for themselves -/
structure Vl (v : T → Int) : Prop where
  c : ∀ t : T, isC t = true → v t = t.2
def Holds (v : T → Int) (f : Fa) : Prop := (v f.a = v f.b) ↔ f.eq = true
def Sat (v : T → Int) (fs : List Fa) : Prop := Vl v ∧ ∀ f ∈ fs, Holds v f
theorem big_sum (ts : List T) : ∀ t ∈ ts, t.2 ≤ ((ts.map fun t => t.2.natAbs).sum : Nat) ∧ -(((ts.map fun t => t.2.natAbs).sum : Nat) : Int) ≤ t.2 := by
  intro t ht
  induction ts with
  | nil => cases ht
  | cons a ts ih =>
    rcases List.mem_cons.mp ht with rfl | h
    · simp; omega
    · have := ih h
      simp; omega
theorem sat_of_classes (ts : List T) (fs : List Fa) (ρ : T → Nat) (hm : ∀ f ∈ fs, f.a ∈ ts ∧ f.b ∈ ts) (heq : ∀ f ∈ fs, f.eq = true → ρ f.a = ρ f.b)
    (hc : ∀ x ∈ ts, ∀ y ∈ ts, isC x = true → isC y = true → ρ x = ρ y → x = y) (hne : ∀ f ∈ fs, f.eq = false → ρ f.a ≠ ρ f.b) : ∃ v, Sat v fs := by
  let M : Int := (((ts.map fun t => t.2.natAbs).sum : Nat) : Int)
  let cl : Nat → Option T := fun n => ts.find? fun x => isC x && ρ x == n
  let w : Nat → Int := fun n => match cl n with
    | some c => c.2
    | none => M + 1 + n
  let v : T → Int := fun t => if t ∈ ts then w (ρ t) else if isC t = true then t.2 else 0
  have hcl : ∀ n c, cl n = some c → c ∈ ts ∧ isC c = true ∧ ρ c = n := by
    intro n c h
    have h1 := List.find?_some h
    have h2 := List.mem_of_find?_eq_some h
    simp at h1
    exact ⟨h2, h1.1, h1.2⟩
  have hw : ∀ n, (∃ c, cl n = some c ∧ w n = c.2) ∨ (cl n = none ∧ w n = M + 1 + n) := by
    intro n
    cases q : cl n with
    | some c => exact .inl ⟨c, rfl, by simp [w, q]⟩
    | none => exact .inr ⟨rfl, by simp [w, q]⟩
  refine ⟨v, ⟨fun t ht => ?_⟩, fun f hf => ?_⟩
  · by_cases q : t ∈ ts
    · have e : v t = w (ρ t) := by simp [v, q]
      rw [e]
      rcases hw (ρ t) with ⟨c, h1, h2⟩ | ⟨h1, _⟩
      · obtain ⟨k1, k2, k3⟩ := hcl _ _ h1
        rw [h2, hc c k1 t q k2 ht k3]
      · have := List.find?_eq_none.mp h1 t q
        simp [ht] at this
    · simp [v, q, ht]
  · obtain ⟨m1, m2⟩ := hm f hf
    have e1 : v f.a = w (ρ f.a) := by simp [v, m1]
    have e2 : v f.b = w (ρ f.b) := by simp [v, m2]
    unfold Holds
    rw [e1, e2]
    constructor
    · intro h
      cases q : f.eq with
      | true => rfl
      | false =>
        exfalso
        have hn := hne f hf q
        rcases hw (ρ f.a) with ⟨c, h1, h2⟩ | ⟨h1, h2⟩ <;> rcases hw (ρ f.b) with ⟨d, g1, g2⟩ | ⟨g1, g2⟩
        · obtain ⟨k1, k2, k3⟩ := hcl _ _ h1
          obtain ⟨l1, l2, l3⟩ := hcl _ _ g1
          have : c = d := by
            have z : c.2 = d.2 := by rw [← h2, ← g2, h]
            have z1 : c.1 = "c" := by simpa [isC] using k2
            have z2 : d.1 = "c" := by simpa [isC] using l2
            exact Prod.ext (z1.trans z2.symm) z
          subst this
          exact hn (k3.symm.trans l3)
        · obtain ⟨k1, _, _⟩ := hcl _ _ h1
          have := (big_sum ts c k1).1
          rw [h2, g2] at h
          have hM : c.2 ≤ M := this
          omega
        · obtain ⟨k1, _, _⟩ := hcl _ _ g1
          have := (big_sum ts d k1).1
          rw [h2, g2] at h
          have hM : d.2 ≤ M := this
          omega
        · rw [h2, g2] at h
          exact hn (by omega)
    · intro q
      rw [heq f hf q]
theorem classes_of_sat {ts : List T} {fs : List Fa} {same : T → T → Prop} (sound : ∀ v : T → Int, (∀ f ∈ fs, f.eq = true → v f.a = v f.b) → ∀ x y, same x y → v x = v y) {v : T → Int} (h : Sat v fs) :
    (∀ x y, same x y → isC x = true → isC y = true → x = y) ∧ ∀ f ∈ fs, f.eq = false → ¬ same f.a f.b := by
  have s := sound v fun f hf q => (h.2 f hf).mpr q
  refine ⟨fun x y hxy cx cy => ?_, fun f hf q hs => ?_⟩
  · have e := s x y hxy
    rw [h.1.c x cx, h.1.c y cy] at e
    have z1 : x.1 = "c" := by simpa [isC] using cx
    have z2 : y.1 = "c" := by simpa [isC] using cy
    exact Prod.ext (z1.trans z2.symm) e
  · have := (h.2 f hf).mp (s _ _ hs)
    rw [q] at this
    cases this
/-! ### the lots of canB -/
theorem addT_flat (L : List (List T)) (t : T) (nd : L.flatten.Nodup) : (addT L t).flatten.Nodup ∧ ∀ x, x ∈ (addT L t).flatten ↔ x ∈ L.flatten ∨ x = t := by
  unfold addT
  by_cases q : (L.any fun l => decide (t ∈ l)) = true
  · rw [if_pos q]
    simp at q
    obtain ⟨l, hl, ht⟩ := q
    have hm : t ∈ L.flatten := List.mem_flatten.mpr ⟨l, hl, ht⟩
    exact ⟨nd, fun x => ⟨.inl, fun h => h.elim id fun e => e ▸ hm⟩⟩
  · rw [if_neg q]
    have hm : t ∉ L.flatten := by
      intro h
      obtain ⟨l, hl, ht⟩ := List.mem_flatten.mp h
      exact q (List.any_eq_true.mpr ⟨l, hl, by simpa using ht⟩)
    rw [List.flatten_append]
    simp only [List.flatten_cons, List.flatten_nil, List.append_nil]
    refine ⟨?_, fun x => by simp⟩
    rw [List.nodup_append]
    exact ⟨nd, by simp, fun a ha b hb => by
      have : b = t := by simpa using hb
      subst this
      rintro rfl
      exact hm ha⟩
theorem addT_all {P : List T → Prop} {L : List (List T)} {t : T} (h : ∀ l ∈ L, P l) (ht : P [t]) : ∀ l ∈ addT L t, P l := by
  unfold addT
  split
  · exact h
  · intro l hl
    rcases List.mem_append.mp hl with hl | hl
    · exact h l hl
    · have : l = [t] := by simpa using hl
      subst this
      exact ht
theorem lots0_inv (fs : List Fa) : ∀ (L : List (List T)), L.flatten.Nodup → (∀ l ∈ L, ∃ t, l = [t]) →
    (fs.foldl (fun l f => addT (addT l f.a) f.b) L).flatten.Nodup ∧ (∀ x, (x ∈ L.flatten ∨ ∃ f ∈ fs, x = f.a ∨ x = f.b) ↔ x ∈ (fs.foldl (fun l f => addT (addT l f.a) f.b) L).flatten) ∧ ∀ l ∈ (fs.foldl (fun l f => addT (addT l f.a) f.b) L), ∃ t, l = [t] := by
  induction fs with
  | nil => intro L nd h1; exact ⟨nd, fun x => by simp, h1⟩
  | cons f fs ih =>
    intro L nd h1
    obtain ⟨n1, m1⟩ := addT_flat L f.a nd
    obtain ⟨n2, m2⟩ := addT_flat (addT L f.a) f.b n1
    have a1 := addT_all (t := f.a) h1 ⟨_, rfl⟩
    have a2 := addT_all (t := f.b) a1 ⟨_, rfl⟩
    obtain ⟨r1, r2, r3⟩ := ih _ n2 a2
    refine ⟨r1, fun x => ?_, r3⟩
    rw [List.foldl_cons, ← r2, m2, m1]
    constructor
    · rintro (h | ⟨g, hg, h⟩)
      · exact .inl (.inl (.inl h))
      · rcases List.mem_cons.mp hg with rfl | hg
        · rcases h with h | h
          · exact .inl (.inl (.inr h))
          · exact .inl (.inr h)
        · exact .inr ⟨g, hg, h⟩
    · rintro (((h | h) | h) | ⟨g, hg, h⟩)
      · exact .inl h
      · exact .inr ⟨f, by simp, .inl h⟩
      · exact .inr ⟨f, by simp, .inr h⟩
      · exact .inr ⟨g, by simp [hg], h⟩
def Same (L : List (List T)) (x y : T) : Prop := ∃ l ∈ L, x ∈ l ∧ y ∈ l
theorem flat_perm (L : List (List T)) (p : List T → Bool) : ((L.filter fun l => !p l) ++ [(L.filter p).flatten]).flatten.Perm L.flatten := by
  rw [List.flatten_append]
  simp only [List.flatten_cons, List.flatten_nil, List.append_nil]
  induction L with
  | nil => simp
  | cons l L ih =>
    cases q : p l with
    | true =>
      simp only [List.filter_cons, q, Bool.not_true, if_true, List.flatten_cons]
      simp only [Bool.false_eq_true, if_false]
      have h1 : ((L.filter fun l => !p l).flatten ++ (l ++ (L.filter p).flatten)).Perm (l ++ ((L.filter fun l => !p l).flatten ++ (L.filter p).flatten)) := by
        rw [← List.append_assoc, ← List.append_assoc]
        exact List.Perm.append_right _ List.perm_append_comm
      exact h1.trans (List.Perm.append_left _ ih)
    | false =>
      simp only [List.filter_cons, q, Bool.not_false, if_true, List.flatten_cons]
      simp only [Bool.false_eq_true, if_false]
      rw [List.append_assoc]
      exact List.Perm.append_left _ ih
theorem join_eq (L : List (List T)) (f : Fa) (h : f.eq = true) : joinF L f = (L.filter fun l => !(decide (f.a ∈ l) || decide (f.b ∈ l))) ++ [(L.filter fun l => decide (f.a ∈ l) || decide (f.b ∈ l)).flatten] := by
  unfold joinF
  rw [if_pos h]
  congr 2
  funext l
  simp [Bool.not_or]
theorem join_perm (L : List (List T)) (f : Fa) : (joinF L f).flatten.Perm L.flatten := by
  cases q : f.eq with
  | false => unfold joinF; rw [q]; exact List.Perm.refl _
  | true =>
    rw [join_eq L f q]
    exact flat_perm L fun l => decide (f.a ∈ l) || decide (f.b ∈ l)
theorem join_same {L : List (List T)} {f : Fa} {x y : T} (h : Same L x y) : Same (joinF L f) x y := by
  cases q : f.eq with
  | false => unfold joinF; rw [q]; exact h
  | true =>
    rw [join_eq L f q]
    obtain ⟨l, hl, hx, hy⟩ := h
    by_cases z : (decide (f.a ∈ l) || decide (f.b ∈ l)) = true
    · exact ⟨_, List.mem_append.mpr (.inr (by simp; rfl)), List.mem_flatten.mpr ⟨l, List.mem_filter.mpr ⟨hl, z⟩, hx⟩, List.mem_flatten.mpr ⟨l, List.mem_filter.mpr ⟨hl, z⟩, hy⟩⟩
    · exact ⟨l, List.mem_append.mpr (.inl (List.mem_filter.mpr ⟨hl, by simpa using z⟩)), hx, hy⟩
theorem join_joins {L : List (List T)} {f : Fa} (h : f.eq = true) (ha : f.a ∈ L.flatten) (hb : f.b ∈ L.flatten) : Same (joinF L f) f.a f.b := by
  rw [join_eq L f h]
  obtain ⟨l, hl, ha⟩ := List.mem_flatten.mp ha
  obtain ⟨m, hm, hb⟩ := List.mem_flatten.mp hb
  refine ⟨_, List.mem_append.mpr (.inr (by simp; rfl)), List.mem_flatten.mpr ⟨l, List.mem_filter.mpr ⟨hl, by simp [ha]⟩, ha⟩, List.mem_flatten.mpr ⟨m, List.mem_filter.mpr ⟨hm, by simp [hb]⟩, hb⟩⟩
theorem join_sound {L : List (List T)} {f : Fa} {v : T → Int} (hv : f.eq = true → v f.a = v f.b) (h : ∀ l ∈ L, ∀ x ∈ l, ∀ y ∈ l, v x = v y) : ∀ l ∈ joinF L f, ∀ x ∈ l, ∀ y ∈ l, v x = v y := by
  cases q : f.eq with
  | false => unfold joinF; rw [q]; exact h
  | true =>
    rw [join_eq L f q]
    intro l hl
    rcases List.mem_append.mp hl with hl | hl
    · exact h l (List.mem_filter.mp hl).1
    · have : l = (L.filter fun l => decide (f.a ∈ l) || decide (f.b ∈ l)).flatten := by simpa using hl
      subst this
      have one : ∀ x ∈ (L.filter fun l => decide (f.a ∈ l) || decide (f.b ∈ l)).flatten, v x = v f.a := by
        intro x hx
        obtain ⟨m, hm, hxm⟩ := List.mem_flatten.mp hx
        obtain ⟨hm1, hm2⟩ := List.mem_filter.mp hm
        simp at hm2
        rcases hm2 with z | z
        · exact h m hm1 x hxm _ z
        · rw [h m hm1 x hxm _ z, hv q]
      intro x hx y hy
      rw [one x hx, one y hy]
theorem lots1_inv (gs : List Fa) : ∀ (L : List (List T)),
    (gs.foldl joinF L).flatten.Perm L.flatten ∧ (∀ x y, Same L x y → Same (gs.foldl joinF L) x y) ∧ ((∀ f ∈ gs, f.a ∈ L.flatten ∧ f.b ∈ L.flatten) → ∀ f ∈ gs, f.eq = true → Same (gs.foldl joinF L) f.a f.b) ∧
      ∀ v : T → Int, (∀ f ∈ gs, f.eq = true → v f.a = v f.b) → (∀ l ∈ L, ∀ x ∈ l, ∀ y ∈ l, v x = v y) → ∀ l ∈ gs.foldl joinF L, ∀ x ∈ l, ∀ y ∈ l, v x = v y := by
  induction gs with
  | nil => intro L; exact ⟨List.Perm.refl _, fun _ _ h => h, fun _ f hf => (by cases hf), fun _ _ h => h⟩
  | cons g gs ih =>
    intro L
    obtain ⟨i1, i2, i3, i4⟩ := ih (joinF L g)
    have pm := join_perm L g
    refine ⟨i1.trans pm, fun x y h => i2 x y (join_same h), fun hm f hf q => ?_, fun v hv h => i4 v (fun f hf => hv f (by simp [hf])) (join_sound (hv g (by simp)) h)⟩
    rcases List.mem_cons.mp hf with rfl | hf
    · exact i2 _ _ (join_joins q (hm f (by simp)).1 (hm f (by simp)).2)
    · exact i3 (fun f hf => ⟨pm.mem_iff.mpr (hm f (by simp [hf])).1, pm.mem_iff.mpr (hm f (by simp [hf])).2⟩) f hf q
/-- the place of the lot of t -/
def place (L : List (List T)) (t : T) : Nat := L.findIdx fun l => decide (t ∈ l)
theorem place_eq {L : List (List T)} (nd : L.flatten.Nodup) {x y : T} (hx : x ∈ L.flatten) : place L x = place L y ↔ Same L x y := by
  induction L with
  | nil => simp at hx
  | cons l L ih =>
    rw [List.flatten_cons, List.nodup_append] at nd
    obtain ⟨n1, n2, n3⟩ := nd
    rw [List.flatten_cons] at hx
    unfold place
    rw [List.findIdx_cons, List.findIdx_cons]
    by_cases qx : x ∈ l
    · have nx : x ∉ L.flatten := fun h => n3 x qx x h rfl
      by_cases qy : y ∈ l
      · simp [qx, qy]
        exact ⟨l, by simp, qx, qy⟩
      · simp [qx, qy]
        rintro ⟨m, hm, h1, h2⟩
        rcases List.mem_cons.mp hm with rfl | hm
        · exact qy h2
        · exact nx (List.mem_flatten.mpr ⟨m, hm, h1⟩)
    · have hx' : x ∈ L.flatten := by
        rcases List.mem_append.mp hx with h | h
        · exact absurd h qx
        · exact h
      by_cases qy : y ∈ l
      · simp [qx, qy]
        rintro ⟨m, hm, h1, h2⟩
        rcases List.mem_cons.mp hm with rfl | hm
        · exact qx h1
        · exact n3 y qy y (List.mem_flatten.mpr ⟨m, hm, h2⟩) rfl
      · have := ih n2 hx'
        unfold place at this
        simp [qx, qy]
        rw [this]
        constructor
        · rintro ⟨m, hm, h⟩; exact ⟨m, by simp [hm], h⟩
        · rintro ⟨m, hm, h1, h2⟩
          rcases List.mem_cons.mp hm with rfl | hm
          · exact absurd h1 qx
          · exact ⟨m, hm, h1, h2⟩
theorem nodup_sub {L : List (List T)} (nd : L.flatten.Nodup) {l : List T} (h : l ∈ L) : l.Nodup := by
  induction L with
  | nil => cases h
  | cons m L ih =>
    rw [List.flatten_cons, List.nodup_append] at nd
    rcases List.mem_cons.mp h with rfl | h
    · exact nd.1
    · exact ih nd.2.1 h
theorem filter_one {l : List T} (nd : l.Nodup) : (l.filter isC).length ≤ 1 ↔ ∀ x ∈ l, ∀ y ∈ l, isC x = true → isC y = true → x = y := by
  constructor
  · intro h x hx y hy cx cy
    have hx' : x ∈ l.filter isC := List.mem_filter.mpr ⟨hx, cx⟩
    have hy' : y ∈ l.filter isC := List.mem_filter.mpr ⟨hy, cy⟩
    match q : l.filter isC with
    | [] => rw [q] at hx'; cases hx'
    | [z] =>
      rw [q] at hx' hy'
      have := List.mem_singleton.mp hx'
      have := List.mem_singleton.mp hy'
      simp [*]
    | z :: u :: r => rw [q] at h; simp at h
  · intro h
    match q : l.filter isC with
    | [] => simp
    | [z] => simp
    | z :: u :: r =>
      exfalso
      have hz : z ∈ l.filter isC := by rw [q]; simp
      have hu : u ∈ l.filter isC := by rw [q]; simp
      obtain ⟨z1, z2⟩ := List.mem_filter.mp hz
      obtain ⟨u1, u2⟩ := List.mem_filter.mp hu
      have e := h z z1 u u1 z2 u2
      have nd2 : (l.filter isC).Nodup := nd.filter _
      rw [q] at nd2
      simp [e] at nd2
theorem can_iff (fs : List Fa) : canB fs = true ↔ ∃ v, Sat v fs := by
  obtain ⟨n0, m0, s0⟩ := lots0_inv fs [] (by simp) (by simp)
  have e0 : lots0 fs = fs.foldl (fun l f => addT (addT l f.a) f.b) [] := rfl
  rw [← e0] at n0 m0 s0
  obtain ⟨pm, sm, jn, snd⟩ := lots1_inv fs (lots0 fs)
  have e1 : lots1 fs = fs.foldl joinF (lots0 fs) := rfl
  rw [← e1] at pm sm jn snd
  have nd : (lots1 fs).flatten.Nodup := pm.nodup_iff.mpr n0
  have mem : ∀ f ∈ fs, f.a ∈ (lots1 fs).flatten ∧ f.b ∈ (lots1 fs).flatten := fun f hf =>
    ⟨pm.mem_iff.mpr ((m0 _).mp (.inr ⟨f, hf, .inl rfl⟩)), pm.mem_iff.mpr ((m0 _).mp (.inr ⟨f, hf, .inr rfl⟩))⟩
  have joined := jn fun f hf => ⟨(m0 _).mp (.inr ⟨f, hf, .inl rfl⟩), (m0 _).mp (.inr ⟨f, hf, .inr rfl⟩)⟩
  have sub : ∀ l ∈ lots1 fs, l.Nodup := fun l hl => nodup_sub nd hl
  have ok : canB fs = true ↔ (∀ x y, Same (lots1 fs) x y → isC x = true → isC y = true → x = y) ∧ ∀ f ∈ fs, f.eq = false → ¬ Same (lots1 fs) f.a f.b := by
    unfold canB
    rw [List.all_eq_true]
    constructor
    · intro h
      refine ⟨fun x y ⟨l, hl, hx, hy⟩ cx cy => ?_, fun f hf q ⟨l, hl, ha, hb⟩ => ?_⟩
      · have := h l hl
        unfold okLot at this
        simp only [Bool.and_eq_true, decide_eq_true_eq] at this
        exact (filter_one (sub l hl)).mp this.1 x hx y hy cx cy
      · have := h l hl
        unfold okLot at this
        simp only [Bool.and_eq_true, List.all_eq_true] at this
        have := this.2 f hf
        simp [q, ha, hb] at this
    · rintro ⟨h1, h2⟩ l hl
      unfold okLot
      simp only [Bool.and_eq_true, decide_eq_true_eq, List.all_eq_true]
      refine ⟨(filter_one (sub l hl)).mpr fun x hx y hy cx cy => h1 x y ⟨l, hl, hx, hy⟩ cx cy, fun f hf => ?_⟩
      cases q : f.eq with
      | true => simp
      | false =>
        by_cases ha : f.a ∈ l
        · by_cases hb : f.b ∈ l
          · exact absurd ⟨l, hl, ha, hb⟩ (h2 f hf q)
          · simp [hb]
        · simp [ha]
  rw [ok]
  constructor
  · rintro ⟨h1, h2⟩
    refine sat_of_classes (lots1 fs).flatten fs (place (lots1 fs)) mem (fun f hf q => (place_eq nd (mem f hf).1).mpr (joined f hf q)) (fun x hx y hy cx cy e => h1 x y ((place_eq nd hx).mp e) cx cy) fun f hf q e => h2 f hf q ((place_eq nd (mem f hf).1).mp e)
  · rintro ⟨v, hv⟩
    refine classes_of_sat (ts := []) (same := Same (lots1 fs)) (fun v hq x y ⟨l, hl, hx, hy⟩ => snd v hq (fun l hl x hx y hy => ?_) l hl x hx y hy) hv
    obtain ⟨t, rfl⟩ := s0 l hl
    rw [List.mem_singleton.mp hx, List.mem_singleton.mp hy]
end K85

set_option maxRecDepth 100000
set_option maxHeartbeats 4000000
namespace K85
open PySem L2 DL
/-! ### windows that are well -/
structure Win.ok (w : Win) : Prop where
  one : 1 ≤ w.lots.length
  two : w.lots.length ≤ 2
  lot : ∀ l ∈ w.lots, l.length ≤ 4
  shown : w.shown.length ≤ 10
abbrev sp_spare_lots : SpD := spV (α := App × Str × Str × Rol × Tbl × Win) (fun a => [.d (eApp a.1), .d (.str a.2.1), .d (.str a.2.2.1)]) (fun a => a.1.rol a.2.1 = some a.2.2.2.1 ∧ a.1.tab a.2.2.1 = some a.2.2.2.2.1 ∧ a.2.2.2.1.win a.2.2.1 = some a.2.2.2.2.2 ∧ a.2.2.2.2.2.ok) (fun a => eNats (spareB a.2.2.2.2.2.lots))
/-! spare_lots(app, role, table): slots 0 app, 1 role, 2 table; calls spare_in, window_of -/
def w_spare_lots : SW :=
    (wRet (wCall sp_spare_in [(wIx (wCall sp_window_of [(wVar 0), (wVar 1), (wVar 2)]) (wC (.int 1)))]))
theorem fin_spare_lots (xs : List DV) (R : DV → Prop) (h : sp_spare_lots xs R) : w_spare_lots { nx := fun _ => R (.d .none), rt := R } (startE 3 xs) := by
  obtain ⟨⟨A, r, t, rl, tb, w⟩, rfl, ⟨h1, h2, h3, h4⟩, hR⟩ := h
  simp only at h1 h2 h3 h4 hR
  simp [w_spare_lots, startE]
  refine ⟨(A, r, t, rl, tb), rfl, ⟨h1, h2⟩, trivial, ?_⟩
  simp [h3, eOpt, eWin]
  exact ⟨w.lots, rfl, ⟨h4.two, fun l hl => by have := h4.lot l hl; omega⟩, trivial, hR⟩
/-! trimmed -/
def keepAt (sp : List Nat) : Nat → List Lot → List Lot
  | _, [] => []
  | i, l :: r => if i ∈ sp then keepAt sp (i + 1) r else l :: keepAt sp (i + 1) r
def trimW (w : Win) : Option Win := if idleB w then none else some { w with lots := keepAt (spareB w.lots) 0 w.lots }
def trimR (r : Rol) : Rol := { r with wins := r.wins.filterMap trimW }
def trimA (A : App) : App := { A with rols := A.rols.map trimR }
abbrev sp_trimmed_windows : SpD := spV (α := Rol) (fun r => [.d (eRol r)]) (fun r => r.wins.length ≤ 1000 ∧ ∀ w ∈ r.wins, w.ok) (fun r => .tuple ((trimR r).wins.map eWin))
/-! trimmed_windows(role): slots 0 role, 1 told, 2 table, 3 lots, 4 shown, 5 spare, 6 at, 7 lot; calls is_idle, spare_in -/
def w_trimmed_windows : SW :=
    (wSeq (wOwn 1 [])
    (wSeq (wFor (wSeqI (wIx (wVar 0) (wC (.int 2)))) (.tp [2, 3, 4])
      (wIf (wNotT (wTru (wCall sp_is_idle [(wTup [(wVar 2), (wVar 3), (wVar 4)])]))) (wSeq (wSet 5 (wCall sp_spare_in [(wVar 3)]))
        (wApp 1 (wTup [(wVar 2), (wBlt (one tupF) [(wLc (wEnum (wVar 3)) (.tp [6, 7]) (wOpT ninF (wVar 6) (wVar 5)) (wVar 7) [6, 7])]), (wVar 4)]))) wNil))
    (wFrz 1 (wRet (wBlt (one tupF) [(wVar 1)])))))
theorem keep2 (lots : List Lot) (h1 : 1 ≤ lots.length) (h2 : lots.length ≤ 2) (h3 : ∀ l ∈ lots, l.length ≤ 4) (s0 s1 s2 s3 s4 : Option DV) (k : List PyData → Prop) (hk : k ((keepAt (spareB lots) 0 lots).map eLot)) :
    lcW (.tp [6, 7]) (wOpT ninF (wVar 6) (wVar 5)) (wVar 7) (enumD (lots.map eLot) 0) [s0, s1, s2, s3, s4, some (.d (eNats (spareB lots))), none, none] [] k := by
  match lots, h1, h2 with
  | [a], _, _ => simpa [lcW, enumD, spareB, keepAt, eNats, PyData.depthAll] using hk
  | [a, b], _, _ =>
    cases q : liesB b a with
    | true => simpa [lcW, enumD, spareB, q, keepAt, eNats, eInt, PyData.depthAll] using hk
    | false =>
      cases z : liesB a b with
      | true => simpa [lcW, enumD, spareB, q, z, keepAt, eNats, eInt, PyData.depthAll] using hk
      | false => simpa [lcW, enumD, spareB, q, z, keepAt, eNats, eInt, PyData.depthAll] using hk
theorem fin_trimmed_windows (xs : List DV) (R : DV → Prop) (h : sp_trimmed_windows xs R) : w_trimmed_windows { nx := fun _ => R (.d .none), rt := R } (startE 8 xs) := by
  obtain ⟨r, rfl, ⟨h1, h2⟩, hR⟩ := h
  simp only at h1 h2 hR
  simp [w_trimmed_windows, startE, eRol]
  have main : ∀ (ws : List Win) (acc : List PyData) (s0 s2 s3 s4 s5 s6 s7 : Option DV), (∀ w ∈ ws, w.ok) → acc.length + ws.length ≤ 1000 → R (.d (.tuple (acc ++ (ws.filterMap trimW).map eWin))) →
      loopW (.tp [2, 3, 4]) (wIf (wNotT (wTru (wCall sp_is_idle [(wTup [(wVar 2), (wVar 3), (wVar 4)])]))) (wSeq (wSet 5 (wCall sp_spare_in [(wVar 3)]))
        (wApp 1 (wTup [(wVar 2), (wBlt (one tupF) [(wLc (wEnum (wVar 3)) (.tp [6, 7]) (wOpT ninF (wVar 6) (wVar 5)) (wVar 7) [6, 7])]), (wVar 4)]))) wNil)
        { nx := wFrz 1 (wRet (wBlt (one tupF) [(wVar 1)])) { nx := fun _ => R (.d .none), rt := R }, rt := R } (ws.map eWin) [s0, some (.l acc), s2, s3, s4, s5, s6, s7] := by
    intro ws
    induction ws with
    | nil => intro acc s0 s2 s3 s4 s5 s6 s7 _ _ hR; simpa using hR
    | cons w ws ih =>
      intro acc s0 s2 s3 s4 s5 s6 s7 hw hl hR
      have g := hw w (by simp)
      simp [eWin]
      refine ⟨w, rfl, ⟨by have := g.two; omega, fun l hl => by have := g.lot l hl; omega⟩, trivial, ?_⟩
      simp
      simp at hl
      cases q : idleB w with
      | true =>
        have e : trimW w = none := by simp [trimW, q]
        rw [List.filterMap_cons, e] at hR
        exact ih acc _ _ _ _ _ _ _ (fun w h => hw w (by simp [h])) (by omega) hR
      | false =>
        have e : trimW w = some { w with lots := keepAt (spareB w.lots) 0 w.lots } := by simp [trimW, q]
        rw [List.filterMap_cons, e] at hR
        simp
        refine ⟨w.lots, rfl, ⟨g.two, fun l hl => by have := g.lot l hl; omega⟩, trivial, ?_⟩
        simp
        refine keep2 w.lots g.one g.two g.lot _ _ _ _ _ _ ?_
        refine ⟨by omega, ?_⟩
        refine ih _ _ _ _ _ _ _ _ (fun w h => hw w (by simp [h])) (by simp; omega) ?_
        simpa [eWin] using hR
  exact main r.wins [] _ _ _ _ _ _ _ h2 (by simpa using h1) (by simpa [trimR] using hR)
abbrev sp_trimmed : SpD := spV (α := App) (fun a => [.d (eApp a)]) (fun a => a.rols.length ≤ 1000 ∧ ∀ r ∈ a.rols, r.wins.length ≤ 1000 ∧ ∀ w ∈ r.wins, w.ok) (fun a => eApp (trimA a))
/-! trimmed(app): slots 0 app, 1 role; calls trimmed_windows -/
def w_trimmed : SW :=
    (wRet (wOp addF (wTup [(wIx (wVar 0) (wC (.int 0))), (wBlt (one tupF) [(wLc (wSeqE (wIx (wVar 0) (wC (.int 1)))) (.nm 1) wYes (wTup [(wIx (wVar 1) (wC (.int 0))), (wIx (wVar 1) (wC (.int 1))), (wCall sp_trimmed_windows [(wVar 1)])]) [1])])]) (wSl (wVar 0) (some (wC (.int 2))) none)))
theorem fin_trimmed (xs : List DV) (R : DV → Prop) (h : sp_trimmed xs R) : w_trimmed { nx := fun _ => R (.d .none), rt := R } (startE 2 xs) := by
  obtain ⟨A, rfl, ⟨h1, h2⟩, hR⟩ := h
  simp only at h1 h2 hR
  simp [w_trimmed, startE, eApp]
  refine lcW_map eRol (fun r => eRol (trimR r)) _ (fun r hr Q q => ?_) (by simp; omega) ?_
  · simp [eRol]
    exact ⟨r, by simp [eRol], h2 r hr, trivial, q⟩
  · simp [cutD, HT.sIx]
    simpa [eApp, trimA, List.map_map, Function.comp_def] using hR
def sizesA (A : App) : List Int := [A.tabs.length, (A.tabs.map fun t => (t.flds.length : Int)).sum, A.rols.length, (A.rols.map fun r => (r.wins.length : Int)).sum, A.asks.length, 0]
abbrev sp_sizes : SpD := spV (α := App) (fun a => [.d (eApp a)]) (fun a => a.tabs.length ≤ 1000 ∧ a.rols.length ≤ 1000) (fun a => .tuple ((sizesA a).map .int))
/-! sizes(app): slots 0 app, 1 fields, 2 windows, 3 table, 4 role; calls  -/
def w_sizes : SW :=
    (wSeq (wSet 1 (wBlt (one sumF) [(wLc (wSeqE (wIx (wVar 0) (wC (.int 0)))) (.nm 3) wYes (wBlt (one lenF) [(wIx (wVar 3) (wC (.int 1)))]) [3])]))
    (wSeq (wSet 2 (wBlt (one sumF) [(wLc (wSeqE (wIx (wVar 0) (wC (.int 1)))) (.nm 4) wYes (wBlt (one lenF) [(wIx (wVar 4) (wC (.int 2)))]) [4])]))
    (wRet (wTup [(wBlt (one lenF) [(wIx (wVar 0) (wC (.int 0)))]), (wVar 1), (wBlt (one lenF) [(wIx (wVar 0) (wC (.int 1)))]), (wVar 2), (wBlt (one lenF) [(wIx (wVar 0) (wC (.int 2)))]), (wBlt (one lenF) [(wIx (wVar 0) (wC (.int 3)))])]))))
theorem fin_sizes (xs : List DV) (R : DV → Prop) (h : sp_sizes xs R) : w_sizes { nx := fun _ => R (.d .none), rt := R } (startE 5 xs) := by
  obtain ⟨A, rfl, ⟨h1, h2⟩, hR⟩ := h
  simp only at h1 h2 hR
  simp [w_sizes, startE, eApp]
  refine lcW_map eTbl (fun t => .int (t.flds.length : Int)) _ (fun t ht Q q => by simpa [eTbl] using q) (by simp; omega) ?_
  refine ⟨A.tabs.map fun (t : Tbl) => (t.flds.length : Int), by simp [List.map_map, Function.comp_def], ?_⟩
  refine lcW_map eRol (fun t => .int (t.wins.length : Int)) _ (fun t ht Q q => by simpa [eRol] using q) (by simp; omega) ?_
  refine ⟨A.rols.map fun (t : Rol) => (t.wins.length : Int), by simp [List.map_map, Function.comp_def], ?_⟩
  simpa [sizesA] using hR
end K85

set_option maxRecDepth 100000
set_option maxHeartbeats 4000000
namespace K85
open PySem L2 DL
open PySem.W (AllAlike SortableE dataLe)
/-! ### sorting -/
def srt (l : List PyData) : List PyData := l.mergeSort (dataLe false id)
def eP (p : Str × Str) : PyData := .tuple [.str p.1, .str p.2]
theorem sorts_pairs (l : List (Str × Str)) : AllAlike (l.map eP) ∧ SortableE (l.map eP) ∧ ∀ d ∈ l.map eP, d.depth ≤ 60 := by
  refine ⟨fun d hd d' hd' => ?_, .inl (.inl fun d hd => ?_), fun d hd => ?_⟩
  · obtain ⟨a, _, rfl⟩ := List.mem_map.mp hd
    obtain ⟨b, _, rfl⟩ := List.mem_map.mp hd'
    simp [eP, PySem.W.alike, PySem.W.alikeAll]
  · obtain ⟨a, _, rfl⟩ := List.mem_map.mp hd
    exact ⟨_, _, rfl⟩
  · obtain ⟨a, _, rfl⟩ := List.mem_map.mp hd
    simp [eP, PyData.depth, PyData.depthAll]
def eRw (r : List Int) : PyData := .tuple (r.map .int)
theorem sorts_rows (l : List (List Int)) (n : Nat) (h : ∀ r ∈ l, r.length = n) : AllAlike (l.map eRw) ∧ SortableE (l.map eRw) ∧ ∀ d ∈ l.map eRw, d.depth ≤ 60 := by
  refine ⟨fun d hd d' hd' => ?_, ?_, fun d hd => ?_⟩
  · obtain ⟨a, _, rfl⟩ := List.mem_map.mp hd
    obtain ⟨b, _, rfl⟩ := List.mem_map.mp hd'
    simp [eRw, PySem.W.alike, PySem.W.alike_ints]
  · cases n with
    | zero =>
      refine .inr fun d hd => ?_
      obtain ⟨a, ha, rfl⟩ := List.mem_map.mp hd
      have := List.length_eq_zero_iff.mp (h a ha)
      subst this
      rfl
    | succ n =>
      refine .inl (.inl fun d hd => ?_)
      obtain ⟨a, ha, rfl⟩ := List.mem_map.mp hd
      match a, h a ha with
      | x :: r, _ => exact ⟨_, _, rfl⟩
  · obtain ⟨a, _, rfl⟩ := List.mem_map.mp hd
    simp [eRw, PyData.depth, PySem.W.depth_ints]
/-! ### idle_windows -/
def idlesR (r : Rol) : List (Str × Str) := (r.wins.filter idleB).map fun w => (r.name, w.tbl)
def idlesA (A : App) : List (Str × Str) := A.rols.flatMap idlesR
def eIdles (l : List (Str × Str)) : PyData := .tuple (srt (l.map eP))
structure App.fit (A : App) : Prop where
  tabs : A.tabs.length ≤ 100
  rols : A.rols.length ≤ 100
  wins : ∀ r ∈ A.rols, r.wins.length ≤ 100
  ok : ∀ r ∈ A.rols, ∀ w ∈ r.wins, w.ok
abbrev sp_idle_windows : SpD := spV (α := App) (fun a => [.d (eApp a)]) (fun a => a.fit) (fun a => eIdles (idlesA a))
/-! idle_windows(app): slots 0 app, 1 role, 2 window; calls is_idle -/
def w_idle_windows : SW :=
    (wRet (wBlt (one tupF) [(wBlt (one sortedF) [(wLc2 (wSeqE (wIx (wVar 0) (wC (.int 1)))) (.nm 1) wYes (wSeqI (wIx (wVar 1) (wC (.int 2)))) (.nm 2) (wTru (wCall sp_is_idle [(wVar 2)])) (wTup [(wIx (wVar 1) (wC (.int 0))), (wIx (wVar 2) (wC (.int 0)))]) [1, 2] [2])])]))
theorem fin_idle_windows (xs : List DV) (R : DV → Prop) (h : sp_idle_windows xs R) : w_idle_windows { nx := fun _ => R (.d .none), rt := R } (startE 3 xs) := by
  obtain ⟨A, rfl, hA, hR⟩ := h
  simp only at hA hR
  simp [w_idle_windows, startE, eApp]
  have main : ∀ (rs : List Rol) (acc : List PyData) (s : Option DV) (k : List PyData → Prop), (∀ r ∈ rs, r.wins.length ≤ 100 ∧ ∀ w ∈ r.wins, w.ok) → acc.length + rs.length * 100 ≤ 16777216 → k (acc ++ (rs.flatMap idlesR).map eP) →
      lcW2 (.nm 1) wYes (wSeqI (wIx (wVar 1) (wC (.int 2)))) (.nm 2) (wTru (wCall sp_is_idle [(wVar 2)])) (wTup [(wIx (wVar 1) (wC (.int 0))), (wIx (wVar 2) (wC (.int 0)))]) [2] (rs.map eRol) [s, none, none] acc k := by
    intro rs
    induction rs with
    | nil => intro acc s k _ _ hk; simpa [lcW2] using hk
    | cons r rs ih =>
      intro acc s k hf hl hk
      have g := hf r (by simp)
      simp [lcW2, eRol]
      rw [List.length_cons, Nat.add_mul] at hl
      refine lcW_fm eWin (fun w => if idleB w then some (eP (r.name, w.tbl)) else none) r.wins acc (fun w hw Q q => ?_) (by simp; omega) ?_
      · simp
        have gw := g.2 w hw
        refine ⟨w, rfl, ⟨by have := gw.two; omega, fun l hl => by have := gw.lot l hl; omega⟩, trivial, ?_⟩
        simp
        cases z : idleB w with
        | true => simpa [z, eWin, eP] using q
        | false => simpa [z] using q
      · have e : r.wins.filterMap (fun w => if idleB w = true then some (eP (r.name, w.tbl)) else none) = (idlesR r).map eP := by
          unfold idlesR
          generalize r.wins = ws
          induction ws with
          | nil => rfl
          | cons w ws ih => cases z : idleB w <;> simp [List.filterMap_cons, List.filter_cons, z, ih]
        rw [e]
        have g2 : ((idlesR r).map eP).length ≤ 100 := by
          simp [idlesR]
          exact Nat.le_trans (List.length_filter_le _ _) g.1
        refine ih _ _ _ (fun r hr => hf r (by simp [hr])) (by rw [List.length_append]; omega) ?_
        simpa using hk
  refine main A.rols [] _ _ (fun r hr => ⟨hA.wins r hr, hA.ok r hr⟩) (by have := hA.rols; simp; omega) ?_
  refine ⟨sorts_pairs (A.rols.flatMap idlesR), ?_⟩
  exact hR
/-! ### seen_lots, unseen_lots -/
def seenL (w : Option Win) (z : Str) : List (List Fa) := match w with
  | some w => w.lots.map fun l => l.map (lkFa z)
  | none => []
abbrev sp_seen_lots : SpD := spV (α := App × Str × Str × Str × Rol × Tbl) (fun a => [.d (eApp a.1), .d (.str a.2.1), .d (.str a.2.2.1), .d (.str a.2.2.2.1)]) (fun a => a.1.rol a.2.1 = some a.2.2.2.2.1 ∧ a.1.tab a.2.2.1 = some a.2.2.2.2.2 ∧ ∀ w ∈ a.2.2.2.2.1.wins, w.ok) (fun a => eFls (seenL (a.2.2.2.2.1.win a.2.2.1) a.2.2.2.1))
/-! seen_lots(app, role, table, letter): slots 0 app, 1 role, 2 table, 3 letter, 4 window, 5 lot, 6 look; calls look_fact, window_of -/
def w_seen_lots : SW :=
    (wSeq (wSet 4 (wCall sp_window_of [(wVar 0), (wVar 1), (wVar 2)]))
    (wSeq (wIf (wVT (wIsN false (wVar 4))) (wRet (wTup [])) wNil)
    (wRet (wBlt (one tupF) [(wLc (wSeqE (wIx (wVar 4) (wC (.int 1)))) (.nm 5) wYes (wBlt (one tupF) [(wLc (wSeqE (wVar 5)) (.nm 6) wYes (wCall sp_look_fact [(wVar 6), (wVar 3)]) [6])]) [5])]))))
theorem win_mem {r : Rol} {n : Str} {w : Win} (h : r.win n = some w) : w ∈ r.wins := List.mem_of_find?_eq_some h
theorem fin_seen_lots (xs : List DV) (R : DV → Prop) (h : sp_seen_lots xs R) : w_seen_lots { nx := fun _ => R (.d .none), rt := R } (startE 7 xs) := by
  obtain ⟨⟨A, r, t, z, rl, tb⟩, rfl, ⟨h1, h2, h3⟩, hR⟩ := h
  simp only at h1 h2 h3 hR
  simp [w_seen_lots, startE]
  refine ⟨(A, r, t, rl, tb), rfl, ⟨h1, h2⟩, trivial, ?_⟩
  cases q : rl.win t with
  | none =>
    rw [q] at hR
    simpa [eOpt, q, seenL, eFls] using hR
  | some w =>
    have g := h3 w (win_mem q)
    rw [q] at hR
    simp [eOpt, q, eWin]
    refine lcW_map eLot (fun l => eFas (l.map (lkFa z))) _ (fun l hl Q hq => ?_) (by have := g.two; simp; omega) ?_
    · simp [eLot]
      refine lcW_map eLk (fun k => eFa (lkFa z k)) _ (fun k _ Q q => ?_) (by have := g.lot l hl; simp; omega) ?_
      · simp
        exact ⟨(k, z), rfl, trivial, trivial, q⟩
      · simpa [eFas, List.map_map, Function.comp_def] using hq
    · simpa [eFls, seenL, List.map_map, Function.comp_def] using hR
def unseenL (w : Option Win) (z : Str) : List (List Fa) := match w with
  | some w => prodL (w.lots.map fun l => l.map fun k => [opp (lkFa z k)])
  | none => [[]]
abbrev sp_unseen_lots : SpD := spV (α := App × Str × Str × Str × Rol × Tbl) (fun a => [.d (eApp a.1), .d (.str a.2.1), .d (.str a.2.2.1), .d (.str a.2.2.2.1)]) (fun a => a.1.rol a.2.1 = some a.2.2.2.2.1 ∧ a.1.tab a.2.2.1 = some a.2.2.2.2.2 ∧ ∀ w ∈ a.2.2.2.2.1.wins, w.ok) (fun a => eFls (unseenL (a.2.2.2.2.1.win a.2.2.1) a.2.2.2.1))
/-! unseen_lots(app, role, table, letter): slots 0 app, 1 role, 2 table, 3 letter, 4 rows, 5 lot, 6 fact; calls all_lots, opposite, seen_lots, window_of -/
def w_unseen_lots : SW :=
    (wSeq (wIf (wVT (wIsN false (wCall sp_window_of [(wVar 0), (wVar 1), (wVar 2)]))) (wRet (wTup [(wTup [])])) wNil)
    (wSeq (wOwn 4 [])
    (wSeq (wFor (wSeqI (wCall sp_seen_lots [(wVar 0), (wVar 1), (wVar 2), (wVar 3)])) (.nm 5)
      (wApp 4 (wBlt (one tupF) [(wLc (wSeqE (wVar 5)) (.nm 6) wYes (wTup [(wCall sp_opposite [(wVar 6)])]) [6])])))
    (wFrz 4 (wRet (wCall sp_all_lots [(wVar 4)]))))))
theorem fin_unseen_lots (xs : List DV) (R : DV → Prop) (h : sp_unseen_lots xs R) : w_unseen_lots { nx := fun _ => R (.d .none), rt := R } (startE 7 xs) := by
  obtain ⟨⟨A, r, t, z, rl, tb⟩, rfl, ⟨h1, h2, h3⟩, hR⟩ := h
  simp only at h1 h2 h3 hR
  simp [w_unseen_lots, startE]
  refine ⟨(A, r, t, rl, tb), rfl, ⟨h1, h2⟩, trivial, ?_⟩
  cases q : rl.win t with
  | none =>
    rw [q] at hR
    simpa [eOpt, q, unseenL, eFls, eFas] using hR
  | some w =>
    have g := h3 w (win_mem q)
    rw [q] at hR
    simp [eOpt, q, eWin]
    refine ⟨(A, r, t, z, rl, tb), rfl, ⟨h1, h2, h3⟩, trivial, ?_⟩
    simp [q, seenL, eFls]
    have main : ∀ (ls : List Lot) (acc : List (List (List Fa))) (s0 s1 s2 s3 s5 s6 : Option DV), (∀ l ∈ ls, l.length ≤ 4) → acc.length + ls.length ≤ 2 → (∀ r ∈ acc, r.length ≤ 30 ∧ ∀ f ∈ r, f.length ≤ 10) → R (.d (eFls (prodL (acc ++ ls.map fun l => l.map fun k => [opp (lkFa z k)])))) →
        loopW (.nm 5) (wApp 4 (wBlt (one tupF) [(wLc (wSeqE (wVar 5)) (.nm 6) wYes (wTup [(wCall sp_opposite [(wVar 6)])]) [6])]))
          (DEnds.sq { nx := fun _ => R (.d .none), rt := R } (wFrz 4 (wRet (wCall sp_all_lots [(wVar 4)])) { nx := fun _ => R (.d .none), rt := R })) (ls.map (eFas ∘ fun l => l.map (lkFa z))) [s0, s1, s2, s3, some (.l (acc.map eFls)), s5, s6] := by
      intro ls
      induction ls with
      | nil =>
        intro acc s0 s1 s2 s3 s5 s6 _ hl ha hR
        simp
        refine ⟨acc, rfl, ⟨by simpa using hl, ha⟩, trivial, by simpa using hR⟩
      | cons l ls ih =>
        intro acc s0 s1 s2 s3 s5 s6 hf hl ha hR
        have gl := hf l (by simp)
        simp at hl
        simp [eFas]
        have e : (l.map (eFa ∘ lkFa z)) = (l.map fun k => eFa (lkFa z k)) := rfl
        refine lcW_map (g := .nm 6) (fun k => eFa (lkFa z k)) (fun k => eFas [opp (lkFa z k)]) _ (fun k hk Q q => ?_) (by simp; omega) ?_
        · simp
          exact ⟨lkFa z k, rfl, trivial, trivial, by simpa [eFas] using q⟩
        · refine ⟨by omega, ?_⟩
          have := ih (acc ++ [l.map fun k => [opp (lkFa z k)]]) s0 s1 s2 s3 (some (.d (.tuple (l.map (eFa ∘ lkFa z))))) s6 (fun l h => hf l (by simp [h])) (by simp; omega) (by
            intro r hr
            simp at hr
            rcases hr with hr | hr
            · exact ha r hr
            · subst hr
              simp
              omega) (by simpa using hR)
          simpa [eFls, List.map_map, Function.comp_def] using this
    have := main w.lots [] (some (.d (eApp A))) (some (.d (.str r))) (some (.d (.str t))) (some (.d (.str z))) none none (fun l hl => g.lot l hl) (by have := g.two; simp; omega) (by simp) (by simpa [unseenL] using hR)
    simpa using this
end K85

set_option maxRecDepth 100000
set_option maxHeartbeats 4000000
namespace K85
open PySem L2 DL
/-! ### sights -/
def Tm.fit (nf nb : Nat) : Tm → Prop
  | .f n => n < nf
  | .b n => n < nb
  | .c _ => True
structure Win.fit (w : Win) (nf nb : Nat) : Prop where
  lk : ∀ l ∈ w.lots, ∀ k ∈ l, k.fld < nf ∧ k.tm.fit nf nb
  sh : ∀ n ∈ w.shown, n < nf
def cell (row : List Int) (n : Nat) : Int := row.getD n 0
def tmVal (t : Tm) (row badge : List Int) : Int := match t with
  | .f n => cell row n
  | .b n => cell badge n
  | .c z => z
def lkB (row badge : List Int) (k : Lk) : Bool := (cell row k.fld == tmVal k.tm row badge) == k.eq
def lotB (l : Lot) (row badge : List Int) : Bool := l.all (lkB row badge)
def showB (w : Option Win) (row badge : List Int) : Option (List Int) := match w with
  | some w => if w.lots.any (fun l => lotB l row badge) then some (w.shown.map (cell row)) else none
  | none => none
theorem row_at {row : List Int} {n : Nat} (h : n < row.length) : atI (row.map PyData.int) (n : Int) = some (.int (cell row n)) := by
  rw [atI_nat (by simpa using h)]
  simp [cell, List.getElem?_eq_getElem h]
abbrev sp_look_value : SpD := spV (α := Tm × List Int × List Int) (fun a => [.d (eTm a.1), .d (eRw a.2.1), .d (eRw a.2.2)]) (fun a => a.1.fit a.2.1.length a.2.2.length) (fun a => .int (tmVal a.1 a.2.1 a.2.2))
/-! look_value(term, row, badge): slots 0 term, 1 row, 2 badge; calls  -/
def w_look_value : SW :=
    (wSeq (wIf (wOpT eqF (wIx (wVar 0) (wC (.int 0))) (wC (.str "f"))) (wRet (wIx (wVar 1) (wIx (wVar 0) (wC (.int 1))))) wNil)
    (wRet (wIfE (wOpT eqF (wIx (wVar 0) (wC (.int 0))) (wC (.str "b"))) (wIx (wVar 2) (wIx (wVar 0) (wC (.int 1)))) (wIx (wVar 0) (wC (.int 1))))))
theorem fin_look_value (xs : List DV) (R : DV → Prop) (h : sp_look_value xs R) : w_look_value { nx := fun _ => R (.d .none), rt := R } (startE 3 xs) := by
  obtain ⟨⟨t, row, badge⟩, rfl, hp, hR⟩ := h
  simp only at hp hR
  cases t with
  | f n => simpa [w_look_value, startE, eTm, eRw, tmVal, row_at (show n < row.length from hp)] using hR
  | b n => simpa [w_look_value, startE, eTm, eRw, tmVal, row_at (show n < badge.length from hp), show (("b" : Str) == "f") = false by decide] using hR
  | c z => simpa [w_look_value, startE, eTm, eRw, tmVal, show (("c" : Str) == "f") = false by decide, show (("c" : Str) == "b") = false by decide] using hR
abbrev sp_lot_holds : SpD := spV (α := Lot × List Int × List Int) (fun a => [.d (eLot a.1), .d (eRw a.2.1), .d (eRw a.2.2)]) (fun a => ∀ k ∈ a.1, k.fld < a.2.1.length ∧ k.tm.fit a.2.1.length a.2.2.length) (fun a => .bool (lotB a.1 a.2.1 a.2.2))
/-! lot_holds(lot, row, badge): slots 0 lot, 1 row, 2 badge, 3 sign, 4 field, 5 term; calls look_value -/
def w_lot_holds : SW :=
    (wSeq (wFor (wSeqI (wVar 0)) (.tp [3, 4, 5])
      (wIf (wOpT neF (wOp eqF (wIx (wVar 1) (wVar 4)) (wCall sp_look_value [(wVar 5), (wVar 1), (wVar 2)])) (wOp eqF (wVar 3) (wC (.str "=")))) (wRet (wC (.bool false))) wNil))
    (wRet (wC (.bool true))))
theorem fin_lot_holds (xs : List DV) (R : DV → Prop) (h : sp_lot_holds xs R) : w_lot_holds { nx := fun _ => R (.d .none), rt := R } (startE 6 xs) := by
  obtain ⟨⟨l, row, badge⟩, rfl, hp, hR⟩ := h
  simp only at hp hR
  have main : ∀ (l : Lot) (s0 s3 s4 s5 : Option DV), (∀ k ∈ l, k.fld < row.length ∧ k.tm.fit row.length badge.length) → R (.d (.bool (lotB l row badge))) →
      loopW (.tp [3, 4, 5]) (wIf (wOpT neF (wOp eqF (wIx (wVar 1) (wVar 4)) (wCall sp_look_value [(wVar 5), (wVar 1), (wVar 2)])) (wOp eqF (wVar 3) (wC (.str "=")))) (wRet (wC (.bool false))) wNil)
        { nx := wRet (wC (.bool true)) { nx := fun _ => R (.d .none), rt := R }, rt := R } (l.map eLk) [s0, some (.d (eRw row)), some (.d (eRw badge)), s3, s4, s5] := by
    intro l
    induction l with
    | nil => intro s0 s3 s4 s5 _ hR; simpa [lotB] using hR
    | cons k l ih =>
      intro s0 s3 s4 s5 hp hR
      have g := hp k (by simp)
      simp [eLk, eRw, row_at g.1]
      refine ⟨(k.tm, row, badge), rfl, g.2, trivial, ?_⟩
      simp [eSg_eq]
      cases q : lkB row badge k with
      | true =>
        have q1 : (cell row k.fld == tmVal k.tm row badge) = k.eq := eq_of_beq q
        rw [q1]
        simp
        exact ih _ _ _ _ (fun k hk => hp k (by simp [hk])) (by simpa [lotB, q] using hR)
      | false =>
        have q1 : ((cell row k.fld == tmVal k.tm row badge) == k.eq) = false := q
        rw [q1]
        simpa [lotB, q] using hR
  simp [w_lot_holds, startE, eLot]
  exact main l _ _ _ _ hp hR
abbrev sp_show_through : SpD := spV (α := Option Win × List Int × List Int) (fun a => [.d (eOpt eWin a.1), .d (eRw a.2.1), .d (eRw a.2.2)]) (fun a => ∀ w, a.1 = some w → w.ok ∧ w.fit a.2.1.length a.2.2.length) (fun a => eOpt eRw (showB a.1 a.2.1 a.2.2))
/-! show_through(window, row, badge): slots 0 window, 1 row, 2 badge, 3 field, 4 lot; calls lot_holds -/
def w_show_through : SW :=
    (wSeq (wIf (wOrT (wVT (wIsN false (wVar 0))) (wNotT (wTru (wLc (wSeqE (wIx (wVar 0) (wC (.int 1)))) (.nm 4) (wTru (wCall sp_lot_holds [(wVar 4), (wVar 1), (wVar 2)])) (wVar 4) [4])))) (wRet (wC .none)) wNil)
    (wRet (wBlt (one tupF) [(wLc (wSeqE (wIx (wVar 0) (wC (.int 2)))) (.nm 3) wYes (wIx (wVar 1) (wVar 3)) [3])])))
theorem fin_show_through (xs : List DV) (R : DV → Prop) (h : sp_show_through xs R) : w_show_through { nx := fun _ => R (.d .none), rt := R } (startE 5 xs) := by
  obtain ⟨⟨o, row, badge⟩, rfl, hp, hR⟩ := h
  simp only at hp hR
  cases o with
  | none => simpa [w_show_through, startE, eOpt, showB] using hR
  | some w =>
    obtain ⟨g1, g2⟩ := hp w rfl
    simp [w_show_through, startE, eOpt, eWin]
    refine lcW_filter eLot (fun l => lotB l row badge) _ (fun l hl Q q => ?_) (by have := g1.two; simp; omega) ?_
    · simp
      refine ⟨(l, row, badge), rfl, g2.lk l hl, trivial, ?_⟩
      simp
      cases z : lotB l row badge with
      | true => simpa [z] using q
      | false => simpa [z] using q
    · rw [List.isEmpty_map, filter_isEmpty]
      cases z : w.lots.any (fun l => lotB l row badge) with
      | false => simpa [showB, z, eOpt] using hR
      | true =>
        simp
        refine lcW_map eInt (fun n => .int (cell row n)) _ (fun n hn Q q => ?_) (by have := g1.shown; simp; omega) ?_
        · simp [eInt, eRw, row_at (g2.sh n hn)]
          exact q
        · simpa [showB, z, eOpt, eRw, List.map_map, Function.comp_def] using hR
/-! persons, stores -/
structure Per where
  role : Str
  badge : List Int
def ePer (p : Per) : PyData := .tuple [.str p.role, eRw p.badge]
def eRws (l : List (List Int)) : PyData := .tuple (l.map eRw)
def eSt (s : List (List (List Int))) : PyData := .tuple (s.map eRws)
abbrev sp_show_of : SpD := spV (α := App × Per × Str × List Int × Rol × Tbl) (fun a => [.d (eApp a.1), .d (ePer a.2.1), .d (.str a.2.2.1), .d (eRw a.2.2.2.1)])
  (fun a => a.1.rol a.2.1.role = some a.2.2.2.2.1 ∧ a.1.tab a.2.2.1 = some a.2.2.2.2.2 ∧ ∀ w, a.2.2.2.2.1.win a.2.2.1 = some w → w.ok ∧ w.fit a.2.2.2.1.length a.2.1.badge.length) (fun a => eOpt eRw (showB (a.2.2.2.2.1.win a.2.2.1) a.2.2.2.1 a.2.1.badge))
/-! show_of(app, person, table, row): slots 0 app, 1 person, 2 table, 3 row; calls show_through, window_of -/
def w_show_of : SW :=
    (wRet (wCall sp_show_through [(wCall sp_window_of [(wVar 0), (wIx (wVar 1) (wC (.int 0))), (wVar 2)]), (wVar 3), (wIx (wVar 1) (wC (.int 1)))]))
theorem fin_show_of (xs : List DV) (R : DV → Prop) (h : sp_show_of xs R) : w_show_of { nx := fun _ => R (.d .none), rt := R } (startE 4 xs) := by
  obtain ⟨⟨A, p, t, row, rl, tb⟩, rfl, ⟨h1, h2, h3⟩, hR⟩ := h
  simp only at h1 h2 h3 hR
  simp [w_show_of, startE, ePer]
  refine ⟨(A, p.role, t, rl, tb), rfl, ⟨h1, h2⟩, trivial, ?_⟩
  exact ⟨(rl.win t, row, p.badge), rfl, h3, trivial, hR⟩
abbrev sp_is_seen : SpD := spV (α := App × Per × Str × List Int × Rol × Tbl) (fun a => [.d (eApp a.1), .d (ePer a.2.1), .d (.str a.2.2.1), .d (eRw a.2.2.2.1)])
  (fun a => a.1.rol a.2.1.role = some a.2.2.2.2.1 ∧ a.1.tab a.2.2.1 = some a.2.2.2.2.2 ∧ ∀ w, a.2.2.2.2.1.win a.2.2.1 = some w → w.ok ∧ w.fit a.2.2.2.1.length a.2.1.badge.length) (fun a => .bool (showB (a.2.2.2.2.1.win a.2.2.1) a.2.2.2.1 a.2.1.badge).isSome)
/-! is_seen(app, person, table, row): slots 0 app, 1 person, 2 table, 3 row; calls show_of -/
def w_is_seen : SW :=
    (wRet (wIsN true (wCall sp_show_of [(wVar 0), (wVar 1), (wVar 2), (wVar 3)])))
theorem fin_is_seen (xs : List DV) (R : DV → Prop) (h : sp_is_seen xs R) : w_is_seen { nx := fun _ => R (.d .none), rt := R } (startE 4 xs) := by
  obtain ⟨⟨A, p, t, row, rl, tb⟩, rfl, ⟨h1, h2, h3⟩, hR⟩ := h
  simp only at h1 h2 h3 hR
  simp [w_is_seen, startE]
  refine ⟨(A, p, t, row, rl, tb), rfl, ⟨h1, h2, h3⟩, trivial, ?_⟩
  cases q : showB (rl.win t) row p.badge with
  | none => simpa [q, eOpt] using hR
  | some w => simpa [q, eOpt, eRw] using hR
/-- a store that goes with an app and a person -/
structure Sees (A : App) (p : Per) (rl : Rol) (st : List (List (List Int))) : Prop where
  rol : A.rol p.role = some rl
  nd : (A.tabs.map (·.name)).Nodup
  nm : ∀ t ∈ A.tabs, PyData.strOk t.name = true
  tabs : A.tabs.length ≤ 100
  len : st.length = A.tabs.length
  rows : ∀ (i : Nat) (t : Tbl) (rs : List (List Int)), A.tabs[i]? = some t → st[i]? = some rs → rs.length ≤ 1000 ∧ ∀ r ∈ rs, r.length = t.flds.length
  win : ∀ t ∈ A.tabs, ∀ w, rl.win t.name = some w → w.ok ∧ w.fit t.flds.length p.badge.length
theorem find_nodup {l : List Tbl} (nd : (l.map (·.name)).Nodup) {i : Nat} {t : Tbl} (h : l[i]? = some t) : (l.find? fun x => x.name == t.name) = some t ∧ (l.findIdx? fun x => x.name == t.name) = some i := by
  induction l generalizing i with
  | nil => simp at h
  | cons a l ih =>
    rw [List.map_cons, List.nodup_cons] at nd
    cases i with
    | zero =>
      simp at h; subst h
      simp [List.findIdx?_cons]
    | succ i =>
      simp at h
      have hm : t.name ∈ l.map (·.name) := List.mem_map.mpr ⟨t, List.mem_of_getElem? h, rfl⟩
      have ne : (a.name == t.name) = false := by
        apply beq_eq_false_iff_ne.mpr
        intro e
        exact nd.1 (e ▸ hm)
      obtain ⟨g1, g2⟩ := ih nd.2 h
      refine ⟨by rw [List.find?_cons, ne]; exact g1, ?_⟩
      rw [List.findIdx?_cons, ne, g2]
      rfl
def seenRows (w : Option Win) (badge : List Int) (rows : List (List Int)) : List (List Int) := rows.filter fun r => (showB w r badge).isSome
def showsOf (w : Option Win) (badge : List Int) (rows : List (List Int)) : List (List Int) := rows.filterMap fun r => showB w r badge
abbrev sp_seen_rows : SpD := spV (α := App × Per × List (List (List Int)) × Nat × Rol × Tbl × List (List Int)) (fun a => [.d (eApp a.1), .d (ePer a.2.1), .d (eSt a.2.2.1), .d (.str a.2.2.2.2.2.1.name)])
  (fun a => Sees a.1 a.2.1 a.2.2.2.2.1 a.2.2.1 ∧ a.1.tabs[a.2.2.2.1]? = some a.2.2.2.2.2.1 ∧ a.2.2.1[a.2.2.2.1]? = some a.2.2.2.2.2.2) (fun a => eRws (seenRows (a.2.2.2.2.1.win a.2.2.2.2.2.1.name) a.2.1.badge a.2.2.2.2.2.2))
/-! seen_rows(app, person, store, table): slots 0 app, 1 person, 2 store, 3 table, 4 row; calls is_seen, table_place -/
def w_seen_rows : SW :=
    (wRet (wBlt (one tupF) [(wLc (wSeqE (wIx (wVar 2) (wCall sp_table_place [(wVar 0), (wVar 3)]))) (.nm 4) (wTru (wCall sp_is_seen [(wVar 0), (wVar 1), (wVar 3), (wVar 4)])) (wVar 4) [4])]))
theorem fin_seen_rows (xs : List DV) (R : DV → Prop) (h : sp_seen_rows xs R) : w_seen_rows { nx := fun _ => R (.d .none), rt := R } (startE 5 xs) := by
  obtain ⟨⟨A, p, st, i, rl, tb, rs⟩, rfl, ⟨S, h2, h3⟩, hR⟩ := h
  simp only at S h2 h3 hR
  obtain ⟨f1, f2⟩ := find_nodup S.nd h2
  have hi := (List.getElem?_eq_some_iff.mp h2).1
  have mt : tb ∈ A.tabs := List.mem_of_getElem? h2
  have gr := S.rows i tb rs h2 h3
  simp [w_seen_rows, startE]
  refine ⟨(A, tb.name, i), rfl, ⟨f2, S.nm, S.nm tb mt, S.tabs⟩, trivial, ?_⟩
  simp [eSt]
  rw [DL.atI_nat (by simp [S.len]; exact hi)]
  simp [h3, eRws]
  refine lcW_filter eRw (fun r => (showB (rl.win tb.name) r p.badge).isSome) _ (fun r hr Q q => ?_) (by simp; omega) ?_
  · simp
    refine ⟨(A, p, tb.name, r, rl, tb), rfl, ⟨S.rol, f1, fun w hw => by rw [gr.2 r hr]; exact S.win tb mt w hw⟩, trivial, ?_⟩
    simp
    cases z : (showB (rl.win tb.name) r p.badge).isSome with
    | true => simpa [z] using q
    | false => simpa [z] using q
  · exact hR
def tableB (w : Option Win) (badge : List Int) (rows : List (List Int)) : PyData := match w with
  | none => .none
  | some w => .tuple (srt ((showsOf (some w) badge rows).map eRw))
abbrev sp_table_shows : SpD := spV (α := App × Per × List (List (List Int)) × Nat × Rol × Tbl × List (List Int)) (fun a => [.d (eApp a.1), .d (ePer a.2.1), .d (eSt a.2.2.1), .d (.str a.2.2.2.2.2.1.name)])
  (fun a => Sees a.1 a.2.1 a.2.2.2.2.1 a.2.2.1 ∧ a.1.tabs[a.2.2.2.1]? = some a.2.2.2.2.2.1 ∧ a.2.2.1[a.2.2.2.1]? = some a.2.2.2.2.2.2) (fun a => tableB (a.2.2.2.2.1.win a.2.2.2.2.2.1.name) a.2.1.badge a.2.2.2.2.2.2)
/-! table_shows(app, person, store, table): slots 0 app, 1 person, 2 store, 3 table, 4 row; calls seen_rows, show_of, window_of -/
def w_table_shows : SW :=
    (wSeq (wIf (wVT (wIsN false (wCall sp_window_of [(wVar 0), (wIx (wVar 1) (wC (.int 0))), (wVar 3)]))) (wRet (wC .none)) wNil)
    (wRet (wBlt (one tupF) [(wBlt (one sortedF) [(wLc (wSeqE (wCall sp_seen_rows [(wVar 0), (wVar 1), (wVar 2), (wVar 3)])) (.nm 4) wYes (wCall sp_show_of [(wVar 0), (wVar 1), (wVar 3), (wVar 4)]) [4])])])))
theorem shows_len {w : Win} {badge : List Int} {rows : List (List Int)} : ∀ r ∈ showsOf (some w) badge rows, r.length = w.shown.length := by
  intro r hr
  simp [showsOf, showB] at hr
  obtain ⟨_, _, _, rfl⟩ := hr
  simp
theorem shows_eq (w : Win) (badge : List Int) : ∀ rs : List (List Int), (seenRows (some w) badge rs).map (fun r => eOpt eRw (showB (some w) r badge)) = (showsOf (some w) badge rs).map eRw
  | [] => rfl
  | r :: rs => by
    have ih := shows_eq w badge rs
    unfold seenRows showsOf at ih ⊢
    cases z : showB (some w) r badge with
    | none =>
      rw [List.filter_cons, List.filterMap_cons, z]
      simpa using ih
    | some x =>
      rw [List.filter_cons, List.filterMap_cons, z]
      simp only [Option.isSome_some, if_true, List.map_cons, z, ih]
      rfl
theorem fin_table_shows (xs : List DV) (R : DV → Prop) (h : sp_table_shows xs R) : w_table_shows { nx := fun _ => R (.d .none), rt := R } (startE 5 xs) := by
  obtain ⟨⟨A, p, st, i, rl, tb, rs⟩, rfl, ⟨S, h2, h3⟩, hR⟩ := h
  simp only at S h2 h3 hR
  obtain ⟨f1, f2⟩ := find_nodup S.nd h2
  have mt : tb ∈ A.tabs := List.mem_of_getElem? h2
  have gr := S.rows i tb rs h2 h3
  simp [w_table_shows, startE, ePer]
  refine ⟨(A, p.role, tb.name, rl, tb), rfl, ⟨S.rol, f1⟩, trivial, ?_⟩
  cases q : rl.win tb.name with
  | none =>
    rw [q] at hR
    simpa [eOpt, q, tableB] using hR
  | some w =>
    rw [q] at hR
    simp [eOpt, q, eWin]
    refine ⟨(A, p, st, i, rl, tb, rs), by simp [ePer], ⟨S, h2, h3⟩, trivial, ?_⟩
    simp [eRws]
    refine lcW_map eRw (fun r => eOpt eRw (showB (some w) r p.badge)) _ (fun r hr Q hq => ?_) (by have := List.length_filter_le (fun r => (showB (rl.win tb.name) r p.badge).isSome) rs; simp [seenRows]; omega) ?_
    · have hr' : r ∈ rs := (List.mem_filter.mp hr).1
      simp
      refine ⟨(A, p, tb.name, r, rl, tb), by simp [ePer], ⟨S.rol, f1, fun w hw => by rw [gr.2 r hr']; exact S.win tb mt w hw⟩, trivial, ?_⟩
      simpa [q] using hq
    · have e : (seenRows (rl.win tb.name) p.badge rs).map (fun r => eOpt eRw (showB (some w) r p.badge)) = (showsOf (some w) p.badge rs).map eRw := by
        rw [q]
        exact shows_eq w p.badge rs
      rw [e]
      exact ⟨sorts_rows _ _ shows_len, hR⟩
def sightA (A : App) (rl : Rol) (badge : List Int) (st : List (List (List Int))) : PyData := .tuple ((A.tabs.zip st).map fun a => tableB (rl.win a.1.name) badge a.2)
abbrev sp_sight_of : SpD := spV (α := App × Per × List (List (List Int)) × Rol) (fun a => [.d (eApp a.1), .d (ePer a.2.1), .d (eSt a.2.2.1)]) (fun a => Sees a.1 a.2.1 a.2.2.2 a.2.2.1) (fun a => sightA a.1 a.2.2.2 a.2.1.badge a.2.2.1)
/-! sight_of(app, person, store): slots 0 app, 1 person, 2 store, 3 table; calls table_shows -/
def w_sight_of : SW :=
    (wRet (wBlt (one tupF) [(wLc (wSeqE (wIx (wVar 0) (wC (.int 0)))) (.nm 3) wYes (wCall sp_table_shows [(wVar 0), (wVar 1), (wVar 2), (wIx (wVar 3) (wC (.int 0)))]) [3])]))
theorem fin_sight_of (xs : List DV) (R : DV → Prop) (h : sp_sight_of xs R) : w_sight_of { nx := fun _ => R (.d .none), rt := R } (startE 4 xs) := by
  obtain ⟨⟨A, p, st, rl⟩, rfl, S, hR⟩ := h
  simp only at S hR
  simp [w_sight_of, startE]
  have e1 : eApp A = .tuple [.tuple ((A.tabs.zip st).map fun a => eTbl a.1), .tuple (A.rols.map eRol), .tuple (A.asks.map eAsk), .tuple []] := by
    have : (A.tabs.zip st).map (fun a => eTbl a.1) = A.tabs.map eTbl := by
      have h1 : (A.tabs.zip st).map (fun a => eTbl a.1) = ((A.tabs.zip st).map Prod.fst).map eTbl := by rw [List.map_map]; rfl
      rw [h1, List.map_fst_zip (by rw [S.len]; exact Nat.le_refl _)]
    rw [this]; rfl
  have main : ixF (eApp A) (.int 0) fun d => seqF d fun xs => lcW (.nm 3) wYes (wCall sp_table_shows [(wVar 0), (wVar 1), (wVar 2), (wIx (wVar 3) (wC (.int 0)))]) xs [some (.d (eApp A)), some (.d (ePer p)), some (.d (eSt st)), none] [] fun ds => R (.d (.tuple ds)) := by
    rw [show (ixF (eApp A) (.int 0)) = ixF (.tuple [.tuple ((A.tabs.zip st).map fun a => eTbl a.1), .tuple (A.rols.map eRol), .tuple (A.asks.map eAsk), .tuple []]) (.int 0) by rw [e1]]
    simp
    refine lcW_map (fun a : Tbl × List (List Int) => eTbl a.1) (fun a => tableB (rl.win a.1.name) p.badge a.2) _ (fun a ha Q q => ?_) (by have := S.tabs; simp; omega) ?_
    · obtain ⟨i, hi, e⟩ := List.mem_iff_getElem.mp ha
      have hz : (A.tabs.zip st)[i]? = some a := by rw [List.getElem?_eq_getElem hi, e]
      rw [List.getElem?_zip_eq_some] at hz
      simp [eTbl]
      exact ⟨(A, p, st, i, rl, a.1, a.2), rfl, ⟨S, hz.1, hz.2⟩, trivial, q⟩
    · exact hR
  exact main
abbrev sp_are_alike : SpD := spV (α := App × Per × List (List (List Int)) × List (List (List Int)) × Rol) (fun a => [.d (eApp a.1), .d (ePer a.2.1), .d (eSt a.2.2.1), .d (eSt a.2.2.2.1)]) (fun a => Sees a.1 a.2.1 a.2.2.2.2 a.2.2.1 ∧ Sees a.1 a.2.1 a.2.2.2.2 a.2.2.2.1)
  (fun a => .bool (PyData.eqv (sightA a.1 a.2.2.2.2 a.2.1.badge a.2.2.1) (sightA a.1 a.2.2.2.2 a.2.1.badge a.2.2.2.1)))
/-! are_alike(app, person, one, other): slots 0 app, 1 person, 2 one, 3 other; calls sight_of -/
def w_are_alike : SW :=
    (wRet (wOp eqF (wCall sp_sight_of [(wVar 0), (wVar 1), (wVar 2)]) (wCall sp_sight_of [(wVar 0), (wVar 1), (wVar 3)])))
theorem depthAll_le {n : Nat} : ∀ {l : List PyData}, (∀ d ∈ l, d.depth ≤ n) → PyData.depthAll l ≤ n
  | [], _ => by simp [PyData.depthAll]
  | d :: l, h => by
    have h1 := h d (by simp)
    have h2 := depthAll_le (l := l) fun d hd => h d (by simp [hd])
    simp [PyData.depthAll]
    omega
theorem tableB_depth (w : Option Win) (badge : List Int) (rows : List (List Int)) : (tableB w badge rows).depth ≤ 2 := by
  cases w with
  | none => simp [tableB, PyData.depth]
  | some w =>
    simp [tableB, PyData.depth]
    refine depthAll_le fun d hd => ?_
    have hd' : d ∈ (showsOf (some w) badge rows).map eRw := (List.mergeSort_perm _ _).mem_iff.mp hd
    obtain ⟨r, _, rfl⟩ := List.mem_map.mp hd'
    simp [eRw, PyData.depth, PySem.W.depth_ints]
theorem sightA_depth (A : App) (rl : Rol) (badge : List Int) (st : List (List (List Int))) : (sightA A rl badge st).depth ≤ 3 := by
  simp [sightA, PyData.depth]
  refine depthAll_le fun d hd => ?_
  obtain ⟨a, _, rfl⟩ := List.mem_map.mp hd
  exact tableB_depth _ _ _
theorem fin_are_alike (xs : List DV) (R : DV → Prop) (h : sp_are_alike xs R) : w_are_alike { nx := fun _ => R (.d .none), rt := R } (startE 4 xs) := by
  obtain ⟨⟨A, p, s1, s2, rl⟩, rfl, ⟨S1, S2⟩, hR⟩ := h
  simp only at S1 S2 hR
  simp [w_are_alike, startE]
  refine ⟨(A, p, s1, rl), rfl, S1, trivial, ?_⟩
  refine ⟨(A, p, s2, rl), rfl, S2, trivial, ?_⟩
  refine ⟨?_, hR⟩
  have h1 := sightA_depth A rl p.badge s1
  have h2 := Nat.min_le_left (sightA A rl p.badge s1).depth (sightA A rl p.badge s2).depth
  show min (sightA A rl p.badge s1).depth (sightA A rl p.badge s2).depth ≤ 60
  omega
end K85

set_option maxRecDepth 100000
set_option maxHeartbeats 4000000
namespace K85
open PySem L2 DL
@[simp] theorem q_negF {i : Int} {Q : PyData → Prop} : negF (.int i) Q = Q (.int (-i)) := rfl
@[simp] theorem rng_1 : rngD 0 1 = [.int 0] := by simp [rngD, List.range_succ]
@[simp] theorem rng_0 : rngD 0 0 = [] := by simp [rngD]
/-! ### WayMaker -/
def wmMeths : List Str := ["term", "fact", "facts", "worth", "naming", "ways", "lots", "put_facts", "turn_facts"]
/-- what the head tells of the class -/
structure WMC (K : PySem.W.Frag) (C : Addr) : Prop where
  cls : Cls K C
  app : NoAttr K C "app"
  ask : NoAttr K C "ask"
  role : NoAttr K C "role"
  beside : NoAttr K C "beside"
def MI (K : PySem.W.Frag) (C : Addr) (A : App) (a : Ask) : FP := ⟨fun B v => ∃ x dx fs, v = .ref x ∧ B x = some (.ins C dx fs) ∧ (∃ u, fs.lookup ("app" : Str) = some u ∧ Da K B u (eApp A)) ∧ (∃ u, fs.lookup ("ask" : Str) = some u ∧ Da K B u (eAsk a)) ∧
    (∃ u, fs.lookup ("role" : Str) = some u ∧ Da K B u (.str a.role)) ∧ (∃ u, fs.lookup ("beside" : Str) = some u ∧ Da K B u (.int 1)) ∧ ∀ m ∈ wmMeths, fs.lookup m = none,
  fun B B' v s ⟨x, dx, fs, e, h, ⟨u1, a1, b1⟩, ⟨u2, a2, b2⟩, ⟨u3, a3, b3⟩, ⟨u4, a4, b4⟩, r⟩ => ⟨x, dx, fs, e, s _ _ h, ⟨u1, a1, b1.mono s⟩, ⟨u2, a2, b2.mono s⟩, ⟨u3, a3, b3.mono s⟩, ⟨u4, a4, b4.mono s⟩, r⟩⟩
section
variable {K : PySem.W.Frag} {C : Addr}
theorem MI.app (M : WMC K C) (A : App) (a : Ask) : FldP K (MI K C A a) "app" (.d (eApp A)) := ⟨trivial, fun B v ⟨x, dx, fs, e, h, ⟨u, h1, h2⟩, _⟩ => ⟨x, C, dx, fs, u, e, h, M.cls, M.app, h1, h2⟩⟩
theorem MI.ask (M : WMC K C) (A : App) (a : Ask) : FldP K (MI K C A a) "ask" (.d (eAsk a)) := ⟨trivial, fun B v ⟨x, dx, fs, e, h, _, ⟨u, h1, h2⟩, _⟩ => ⟨x, C, dx, fs, u, e, h, M.cls, M.ask, h1, h2⟩⟩
theorem MI.role (M : WMC K C) (A : App) (a : Ask) : FldP K (MI K C A a) "role" (.d (.str a.role)) := ⟨trivial, fun B v ⟨x, dx, fs, e, h, _, _, ⟨u, h1, h2⟩, _⟩ => ⟨x, C, dx, fs, u, e, h, M.cls, M.role, h1, h2⟩⟩
theorem MI.beside (M : WMC K C) (A : App) (a : Ask) : FldP K (MI K C A a) "beside" (.d (.int 1)) := ⟨trivial, fun B v ⟨x, dx, fs, e, h, _, _, _, ⟨u, h1, h2⟩, _⟩ => ⟨x, C, dx, fs, u, e, h, M.cls, M.beside, h1, h2⟩⟩
theorem MI.meth (A : App) (a : Ask) {m : Str} (hm : m ∈ wmMeths := by decide) : InsP (MI K C A a) C m := fun B v ⟨x, dx, fs, e, h, _, _, _, _, r⟩ => ⟨x, dx, fs, e, h, r m hm⟩
end
abbrev mk_sp_WayMaker (K : PySem.W.Frag) (C_WayMaker : Addr) : SpD := fun xs Q => ∃ (A : App) (a : Ask), xs = [.d (eApp A), .d (eAsk a), .d (.str a.role), .p FPany] ∧ Q (.p (MI K C_WayMaker A a))
abbrev sp_WayMaker_fact (K : PySem.W.Frag) (C_WayMaker : Addr) : SpD := spV (α := Empty) (fun a => a.elim) (fun _ => True) (fun a => a.elim)
abbrev sp_WayMaker_facts (K : PySem.W.Frag) (C_WayMaker : Addr) : SpD := spV (α := App × Ask) (fun a => [.p (MI K C_WayMaker a.1 a.2), .d (.list []), .d (.int 0), .d (.str "n")]) (fun _ => True) (fun _ => .tuple [])
abbrev sp_WayMaker_worth (K : PySem.W.Frag) (C_WayMaker : Addr) : SpD := spV (α := App × Ask) (fun a => [.p (MI K C_WayMaker a.1 a.2), .d (.int 0), .d (.str "n")]) (fun _ => True) (fun _ => .tuple [])
abbrev sp_WayMaker_naming (K : PySem.W.Frag) (C_WayMaker : Addr) : SpD := spV (α := App × Ask) (fun a => [.p (MI K C_WayMaker a.1 a.2), .d (.list []), .d (.int 0)]) (fun _ => True) (fun _ => .list [])
def eWay : PyData := .tuple [.str "put", .int 0, .int (-1)]
abbrev sp_WayMaker_ways (K : PySem.W.Frag) (C_WayMaker : Addr) : SpD := spV (α := App × Ask) (fun a => [.p (MI K C_WayMaker a.1 a.2)]) (fun _ => True) (fun _ => .list [eWay])
abbrev sp_WayMaker_put_facts (K : PySem.W.Frag) (C_WayMaker : Addr) : SpD := spV (α := App × Ask) (fun a => [.p (MI K C_WayMaker a.1 a.2), .d (.int 0)]) (fun _ => True) (fun _ => .tuple [])
def waysL (w : Option Win) : List (List Fa) := prodL [[[]], unseenL w "n"]
abbrev sp_WayMaker_lots (K : PySem.W.Frag) (C_WayMaker : Addr) : SpD := spV (α := App × Ask × Rol × Tbl) (fun a => [.p (MI K C_WayMaker a.1 a.2.1), .d eWay]) (fun a => a.1.rol a.2.1.role = some a.2.2.1 ∧ a.1.tab a.2.1.tbl = some a.2.2.2 ∧ ∀ w ∈ a.2.2.1.wins, w.ok) (fun a => eFls (waysL (a.2.2.1.win a.2.1.tbl)))
abbrev sp_own_maker (K : PySem.W.Frag) (C_WayMaker : Addr) : SpD := fun xs Q => ∃ (A : App) (n : Str) (a : Ask), xs = [.d (eApp A), .d (.str n)] ∧ A.ask n = some a ∧ Q (.p (MI K C_WayMaker A a))
/-! WayMaker.facts(self, numbers, part, letter): slots 0 self, 1 numbers, 2 part, 3 letter, 4 at; calls WayMaker.fact -/
def w_WayMaker_facts (K : PySem.W.Frag) (C_WayMaker : Addr) : SW :=
    (wRet (wBlt (one tupF) [(wLc (wSeqE (wVar 1)) (.nm 4) wYes (wMeth C_WayMaker "fact" (sp_WayMaker_fact K C_WayMaker) (wVar 0) [(wVar 4), (wVar 2), (wVar 3)]) [4])]))
/-! WayMaker.worth(self, part, letter): slots 0 self, 1 part, 2 letter; calls  -/
def w_WayMaker_worth (K : PySem.W.Frag) : SW :=
    (wSeq (wIf (wOpT neF (wIx (wIx (wFld K (wVar 0) "ask") (wC (.int 6))) (wC (.int 0))) (wC (.str "sum"))) (wRet (wTup [])) wNil)
    wNever)
/-! WayMaker.naming(self, numbers, part): slots 0 self, 1 numbers, 2 part, 3 at; calls literal_parts -/
def w_WayMaker_naming (K : PySem.W.Frag) : SW :=
    (wRet (wLc (wSeqE (wVar 1)) (.nm 3) (wOpT inF (wVar 2) (wCall sp_literal_parts [(wIx (wIx (wFld K (wVar 0) "ask") (wC (.int 5))) (wVar 3))])) (wVar 3) [3]))
/-! WayMaker.ways(self): slots 0 self, 1 plain, 2 beside, 3 told, 4 part, 5 fields, 6 at; calls WayMaker.naming, beside_literals, plain_literals, told_fields -/
def w_WayMaker_ways (K : PySem.W.Frag) (C_WayMaker : Addr) : SW :=
    (wSeq (wPar 1 2 [(wCall sp_plain_literals [(wFld K (wVar 0) "ask")]), (wCall sp_beside_literals [(wFld K (wVar 0) "ask")])])
    (wSeq (wOwn 3 [])
    (wSeq (wFor (wRng1 (wFld K (wVar 0) "beside")) (.nm 4)
      (wSeq (wApp 3 (wTup [(wC (.str "put")), (wVar 4), (wNeg (wC (.int 1)))]))
      (wSeq (wExt 3 (wLc (wSeqE (wMeth C_WayMaker "naming" (sp_WayMaker_naming K C_WayMaker) (wVar 0) [(wVar 1), (wVar 4)])) (.nm 6) wYes (wTup [(wC (.str "parted")), (wVar 4), (wVar 6)]) [6]))
      (wSeq (wExt 3 (wLc (wSeqE (wMeth C_WayMaker "naming" (sp_WayMaker_naming K C_WayMaker) (wVar 0) [(wVar 2), (wVar 4)])) (.nm 6) wYes (wTup [(wC (.str "barred")), (wVar 4), (wVar 6)]) [6]))
      (wSeq (wSet 5 (wCall sp_told_fields [(wIx (wFld K (wVar 0) "ask") (wC (.int 6)))]))
      (wExt 3 (wLc (wRng1 (wBlt (one lenF) [(wVar 5)])) (.nm 6) (wOpT eqF (wIx (wIx (wVar 5) (wVar 6)) (wC (.int 1))) (wVar 4)) (wTup [(wC (.str "told")), (wVar 4), (wVar 6)]) [6])))))))
    (wSeq (wIf (wVT (wIsN true (wIx (wFld K (wVar 0) "ask") (wC (.int 4))))) (wSeq (wApp 3 (wTup [(wC (.str "put")), (wFld K (wVar 0) "beside"), (wNeg (wC (.int 1)))]))
      (wExt 3 (wLc (wSeqE (wVar 2)) (.nm 6) wYes (wTup [(wC (.str "parted")), (wFld K (wVar 0) "beside"), (wVar 6)]) [6]))) wNil)
    (wFrz 3 (wRet (wVar 3)))))))
/-! WayMaker.put_facts(self, part): slots 0 self, 1 part, 2 facts; calls WayMaker.facts, beside_literals, plain_literals -/
def w_WayMaker_put_facts (K : PySem.W.Frag) (C_WayMaker : Addr) : SW :=
    (wSeq (wSet 2 (wMeth C_WayMaker "facts" (sp_WayMaker_facts K C_WayMaker) (wVar 0) [(wCall sp_plain_literals [(wFld K (wVar 0) "ask")]), (wVar 1), (wC (.str "n"))]))
    (wRet (wIfE (wOpT ltF (wVar 1) (wFld K (wVar 0) "beside")) (wVar 2) (wOp addF (wVar 2) (wMeth C_WayMaker "facts" (sp_WayMaker_facts K C_WayMaker) (wVar 0) [(wCall sp_beside_literals [(wFld K (wVar 0) "ask")]), (wVar 1), (wC (.str "n"))])))))
/-! WayMaker.lots(self, way): slots 0 self, 1 way, 2 kind, 3 part, 4 at, 5 table, 6 facts; calls WayMaker.put_facts, WayMaker.worth, all_lots, ask_tables, unseen_lots -/
def w_WayMaker_lots (K : PySem.W.Frag) (C_WayMaker : Addr) : SW :=
    (wSeq (wUnp (.tp [2, 3, 4]) (wVar 1))
    (wSeq (wSet 5 (wIx (wCall sp_ask_tables [(wFld K (wVar 0) "ask")]) (wVar 3)))
    (wSeq (wIf (wOpT eqF (wVar 2) (wC (.str "put"))) (wSeq (wSet 6 (wMeth C_WayMaker "put_facts" (sp_WayMaker_put_facts K C_WayMaker) (wVar 0) [(wVar 3)]))
      (wRet (wCall sp_all_lots [(wLst [(wTup [(wOp addF (wVar 6) (wMeth C_WayMaker "worth" (sp_WayMaker_worth K C_WayMaker) (wVar 0) [(wVar 3), (wC (.str "n"))]))]), (wCall sp_unseen_lots [(wFld K (wVar 0) "app"), (wFld K (wVar 0) "role"), (wVar 5), (wC (.str "n"))])])]))) wNil)
    (wSeq wNever
    (wSeq wNever
    wNever)))))
/-! own_maker(app, ask): slots 0 app, 1 ask, 2 row; calls WayMaker.__init__, ask_of -/
def w_own_maker (K : PySem.W.Frag) (C_WayMaker : Addr) : SW :=
    (wSeq (wSet 2 (wCall sp_ask_of [(wVar 0), (wVar 1)]))
    (wRet (wCall (mk_sp_WayMaker K C_WayMaker) [(wVar 0), (wVar 2), (wIx (wVar 2) (wC (.int 1))), wAny])))
section
variable {K : PySem.W.Frag} {C : Addr} (M : WMC K C)
include M
theorem fin_WayMaker_facts (xs : List DV) (R : DV → Prop) (h : sp_WayMaker_facts K C xs R) : w_WayMaker_facts K C { nx := fun _ => R (.d .none), rt := R } (startE 5 xs) := by
  obtain ⟨⟨A, a⟩, rfl, -, hR⟩ := h
  simpa [w_WayMaker_facts, startE, lcW] using hR
theorem fin_WayMaker_worth (xs : List DV) (R : DV → Prop) (h : sp_WayMaker_worth K C xs R) : w_WayMaker_worth K { nx := fun _ => R (.d .none), rt := R } (startE 3 xs) := by
  obtain ⟨⟨A, a⟩, rfl, -, hR⟩ := h
  simp [w_WayMaker_worth, startE]
  refine ⟨_, MI.ask M A a, ?_⟩
  simpa [eAsk, show (("count" : Str) == "sum") = false by decide] using hR
theorem fin_WayMaker_naming (xs : List DV) (R : DV → Prop) (h : sp_WayMaker_naming K C xs R) : w_WayMaker_naming K { nx := fun _ => R (.d .none), rt := R } (startE 4 xs) := by
  obtain ⟨⟨A, a⟩, rfl, -, hR⟩ := h
  simpa [w_WayMaker_naming, startE, lcW] using hR
theorem fin_WayMaker_put_facts (xs : List DV) (R : DV → Prop) (h : sp_WayMaker_put_facts K C xs R) : w_WayMaker_put_facts K C { nx := fun _ => R (.d .none), rt := R } (startE 3 xs) := by
  obtain ⟨⟨A, a⟩, rfl, -, hR⟩ := h
  simp [w_WayMaker_put_facts, startE]
  refine ⟨MI.meth A a, _, MI.ask M A a, trivial, ⟨a, rfl, trivial, trivial, ⟨(A, a), rfl, trivial, trivial, ?_⟩⟩⟩
  refine ⟨_, MI.beside M A a, ?_⟩
  simpa using hR
theorem fin_WayMaker_lots (xs : List DV) (R : DV → Prop) (h : sp_WayMaker_lots K C xs R) : w_WayMaker_lots K C { nx := fun _ => R (.d .none), rt := R } (startE 7 xs) := by
  obtain ⟨⟨A, a, rl, tb⟩, rfl, ⟨h1, h2, h3⟩, hR⟩ := h
  simp only at h1 h2 h3 hR
  simp [w_WayMaker_lots, startE, eWay]
  refine ⟨_, MI.ask M A a, trivial, ⟨a, rfl, trivial, trivial, ?_⟩⟩
  simp
  refine ⟨MI.meth A a, ⟨(A, a), rfl, trivial, trivial, ?_⟩⟩
  simp
  refine ⟨MI.meth A a, ⟨(A, a), rfl, trivial, trivial, ?_⟩⟩
  simp
  refine ⟨_, MI.app M A a, _, MI.role M A a, ?_⟩
  simp
  refine ⟨(A, a.role, a.tbl, "n", rl, tb), rfl, ⟨h1, h2, h3⟩, trivial, ?_⟩
  simp
  refine ⟨[[[]], unseenL (rl.win a.tbl) "n"], by simp [eFls, eFas], ⟨by simp, ?_⟩, trivial, hR⟩
  intro r hr
  simp at hr
  rcases hr with rfl | rfl
  · simp
  · cases q : rl.win a.tbl with
    | none => simp [unseenL]
    | some w =>
      have g := h3 w (win_mem q)
      obtain ⟨t, ls, s⟩ := w
      have g1 := g.one
      have g2 := g.two
      have g3 := g.lot
      match ls, g1, g2, g3 with
      | [l], _, _, g3 =>
        have := g3 l (by simp)
        simp [unseenL, prodL, bothL_len]
        refine ⟨by omega, fun f hf => ?_⟩
        have := bothL_in (a := [[]]) (b := l.map fun k => [opp (lkFa "n" k)]) (n := 0) (m := 1) (by simp) (by simp) f hf
        omega
      | [l, m], _, _, g3 =>
        have k1 := g3 l (by simp)
        have k2 := g3 m (by simp)
        simp [unseenL, prodL, bothL_len]
        refine ⟨Nat.le_trans (Nat.mul_le_mul k1 k2) (by decide), fun f hf => ?_⟩
        have := bothL_in (n := 1) (m := 1) (fun f hf => by
          have := bothL_in (a := [[]]) (b := l.map fun k => [opp (lkFa "n" k)]) (n := 0) (m := 1) (by simp) (by simp) f hf
          omega) (by simp) f hf
        omega
theorem fin_WayMaker_ways (xs : List DV) (R : DV → Prop) (h : sp_WayMaker_ways K C xs R) : w_WayMaker_ways K C { nx := fun _ => R (.d .none), rt := R } (startE 7 xs) := by
  obtain ⟨⟨A, a⟩, rfl, -, hR⟩ := h
  simp only [w_WayMaker_ways, startE, q_seq, q_par, q_args1, q_args0, q_call, q_fld, q_var]
  refine ⟨_, MI.ask M A a, ⟨trivial, trivial⟩, ⟨a, rfl, trivial, trivial, ?_⟩⟩
  refine ⟨_, MI.ask M A a, ⟨trivial, trivial⟩, ⟨a, rfl, trivial, trivial, ?_⟩⟩
  simp
  refine ⟨_, MI.beside M A a, ⟨by decide, by decide⟩, ?_⟩
  have e1 : rngD 0 (Int.toNat 1) = [.int 0] := rng_1
  rw [e1]
  simp only [q_loop1, q_bindN, q_seq, q_app, q_slot3, List.set, q_tup, q_args1, q_args0, q_C, q_var, q_slot4, q_neg, q_onD, q_negF, q_allD1, q_allD0]
  refine ⟨by decide, ?_⟩
  simp only [List.nil_append]
  simp
  refine ⟨MI.meth A a, ⟨(A, a), rfl, trivial, trivial, ?_⟩⟩
  simp [lcW]
  refine ⟨MI.meth A a, ⟨(A, a), rfl, trivial, trivial, ?_⟩⟩
  simp [lcW]
  refine ⟨_, MI.ask M A a, ?_⟩
  simp [eAsk]
  refine ⟨(), rfl, trivial, trivial, ?_⟩
  simp [lcW]
  refine ⟨_, MI.ask M A a, ?_⟩
  simp [eAsk]
  exact hR
theorem fin_own_maker (xs : List DV) (R : DV → Prop) (h : sp_own_maker K C xs R) : w_own_maker K C { nx := fun _ => R (.d .none), rt := R } (startE 3 xs) := by
  obtain ⟨A, n, a, rfl, h1, hR⟩ := h
  simp [w_own_maker, startE]
  refine ⟨(A, n, a), rfl, h1, trivial, ?_⟩
  simp [eAsk]
  refine ⟨A, a, ?_, trivial, hR⟩
  simp [eAsk]
omit M
abbrev sp_ask_ways : SpD := spV (α := App × Str × Ask × Rol × Tbl) (fun a => [.d (eApp a.1), .d (.str a.2.1)]) (fun a => a.1.ask a.2.1 = some a.2.2.1 ∧ a.1.rol a.2.2.1.role = some a.2.2.2.1 ∧ a.1.tab a.2.2.1.tbl = some a.2.2.2.2 ∧ ∀ w ∈ a.2.2.2.1.wins, w.ok)
  (fun a => .tuple (if (waysL (a.2.2.2.1.win a.2.2.1.tbl)).any canB then [eWay] else []))
abbrev sp_tells_nothing : SpD := spV (α := App × Str × Ask × Rol × Tbl) (fun a => [.d (eApp a.1), .d (.str a.2.1)]) (fun a => a.1.ask a.2.1 = some a.2.2.1 ∧ a.1.rol a.2.2.1.role = some a.2.2.2.1 ∧ a.1.tab a.2.2.1.tbl = some a.2.2.2.2 ∧ ∀ w ∈ a.2.2.2.1.wins, w.ok)
  (fun a => .bool (!(waysL (a.2.2.2.1.win a.2.2.1.tbl)).any canB))
end
/-! ask_ways(app, ask): slots 0 app, 1 ask, 2 maker, 3 way; calls WayMaker.lots, WayMaker.ways, own_maker, some_holds -/
def w_ask_ways (K : PySem.W.Frag) (C_WayMaker : Addr) : SW :=
    (wSeq (wSet 2 (wCall (sp_own_maker K C_WayMaker) [(wVar 0), (wVar 1)]))
    (wRet (wBlt (one tupF) [(wLc (wSeqE (wMeth C_WayMaker "ways" (sp_WayMaker_ways K C_WayMaker) (wVar 2) [])) (.nm 3) (wTru (wCall sp_some_holds [(wMeth C_WayMaker "lots" (sp_WayMaker_lots K C_WayMaker) (wVar 2) [(wVar 3)])])) (wVar 3) [3])])))
/-! tells_nothing(app, ask): slots 0 app, 1 ask; calls ask_ways -/
def w_tells_nothing : SW :=
    (wRet (wOp eqF (wCall sp_ask_ways [(wVar 0), (wVar 1)]) (wTup [])))
theorem waysL_len {w : Option Win} (h : ∀ v, w = some v → v.ok) : ∀ f ∈ waysL w, f.length ≤ 1000 := by
  intro f hf
  have hu : ∀ f ∈ unseenL w "n", f.length ≤ 2 := by
    cases w with
    | none => simp [unseenL]
    | some w =>
      have g := h w rfl
      obtain ⟨t, ls, s⟩ := w
      have g1 := g.one
      have g2 := g.two
      match ls, g1, g2 with
      | [l], _, _ =>
        intro f hf
        have := bothL_in (a := [[]]) (b := l.map fun k => [opp (lkFa "n" k)]) (n := 0) (m := 1) (by simp) (by simp) f (by simpa [unseenL, prodL] using hf)
        omega
      | [l, m], _, _ =>
        intro f hf
        have := bothL_in (n := 1) (m := 1) (fun f hf => by
          have := bothL_in (a := [[]]) (b := l.map fun k => [opp (lkFa "n" k)]) (n := 0) (m := 1) (by simp) (by simp) f hf
          omega) (b := m.map fun k => [opp (lkFa "n" k)]) (by simp) f (by simpa [unseenL, prodL] using hf)
        omega
  have := bothL_in (a := bothL [[]] [[]]) (n := 0) (m := 2) (by simp [bothL]) hu f (by simpa [waysL, prodL] using hf)
  omega
theorem fin_ask_ways {K : PySem.W.Frag} {C : Addr} (M : WMC K C) (xs : List DV) (R : DV → Prop) (h : sp_ask_ways xs R) : w_ask_ways K C { nx := fun _ => R (.d .none), rt := R } (startE 4 xs) := by
  obtain ⟨⟨A, n, a, rl, tb⟩, rfl, ⟨h1, h2, h3, h4⟩, hR⟩ := h
  simp only at h1 h2 h3 h4 hR
  simp [w_ask_ways, startE]
  refine ⟨A, n, a, rfl, h1, trivial, ?_⟩
  refine ⟨MI.meth A a, ⟨(A, a), rfl, trivial, trivial, ?_⟩⟩
  simp
  refine lcW_filter (fun x : PyData => x) (fun _ => (waysL (rl.win a.tbl)).any canB) [eWay] (fun x hx Q q => ?_) (by simp) ?_
  · have : x = eWay := by simpa using hx
    subst this
    simp
    refine ⟨MI.meth A a, ⟨(A, a, rl, tb), rfl, ⟨h2, h3, h4⟩, trivial, ?_⟩⟩
    simp
    refine ⟨(false, waysL (rl.win a.tbl)), by simp [sq, eFls], waysL_len fun v hv => h4 v (win_mem hv), trivial, ?_⟩
    cases z : (waysL (rl.win a.tbl)).any canB with
    | true => simp only [z] at q ⊢; exact q
    | false => simp only [z] at q ⊢; exact q
  · cases z : (waysL (rl.win a.tbl)).any canB with
    | true => simpa [z] using hR
    | false => simpa [z] using hR
theorem fin_tells_nothing (xs : List DV) (R : DV → Prop) (h : sp_tells_nothing xs R) : w_tells_nothing { nx := fun _ => R (.d .none), rt := R } (startE 2 xs) := by
  obtain ⟨⟨A, n, a, rl, tb⟩, rfl, ⟨h1, h2, h3, h4⟩, hR⟩ := h
  simp only at h1 h2 h3 h4 hR
  simp [w_tells_nothing, startE]
  refine ⟨(A, n, a, rl, tb), rfl, ⟨h1, h2, h3, h4⟩, trivial, ?_⟩
  cases z : (waysL (rl.win a.tbl)).any canB with
  | true => simpa [z, PyData.depth, PyData.depthAll, PyData.eqv, PyData.eqvAll] using hR
  | false => simpa [z, PyData.depth, PyData.depthAll, PyData.eqv, PyData.eqvAll] using hR
end K85

set_option maxHeartbeats 4000000
namespace K85
open PySem
/-! ### letters do not matter -/
def swL (z : Str) : Str := if z = "n" then "o" else if z = "o" then "n" else z
def swT (t : T) : T := (swL t.1, t.2)
def swF (f : Fa) : Fa := ⟨f.eq, swT f.a, swT f.b⟩
theorem swL_swL (z : Str) : swL (swL z) = z := by
  unfold swL
  by_cases h1 : z = "n"
  · subst h1; decide
  · by_cases h2 : z = "o"
    · subst h2; decide
    · simp [h1, h2]
theorem swT_swT (t : T) : swT (swT t) = t := by simp [swT, swL_swL]
theorem swT_C (t : T) : isC (swT t) = isC t := by
  unfold isC swT swL
  by_cases h1 : t.1 = "n"
  · simp [h1]; decide
  · by_cases h2 : t.1 = "o"
    · simp [h1, h2]; decide
    · simp [h1, h2]
theorem sat_sw {v : T → Int} {fs : List Fa} (h : Sat v fs) : Sat (fun t => v (swT t)) (fs.map swF) := by
  refine ⟨⟨fun t ht => ?_⟩, fun f hf => ?_⟩
  · show v (swT t) = t.2
    rw [h.1.c _ (by rw [swT_C]; exact ht)]; rfl
  · obtain ⟨g, hg, rfl⟩ := List.mem_map.mp hf
    have := h.2 g hg
    unfold Holds at this ⊢
    simp only [swF, swT_swT]
    exact this
theorem can_sw (fs : List Fa) : canB (fs.map swF) = canB fs := by
  have one : ∀ gs, canB gs = true → canB (gs.map swF) = true := fun gs h => by
    obtain ⟨v, hv⟩ := (can_iff gs).mp h
    exact (can_iff _).mpr ⟨_, sat_sw hv⟩
  have two : (fs.map swF).map swF = fs := by
    rw [List.map_map]
    have : swF ∘ swF = id := by
      funext f
      simp [swF, swT_swT]
    rw [this, List.map_id]
  cases q : canB fs with
  | true => exact one fs q
  | false =>
    cases z : canB (fs.map swF) with
    | false => rfl
    | true =>
      have := one _ z
      rw [two, q] at this
      cases this
theorem lkFa_o (k : Lk) : lkFa "o" k = swF (lkFa "n" k) := by
  obtain ⟨e, n, t⟩ := k
  have h1 : swL "n" = "o" := by decide
  have h2 : swL "v" = "v" := by decide
  have h3 : swL "c" = "c" := by decide
  cases t <;> simp [lkFa, swF, swT, h1, h2, h3]
theorem opp_sw (f : Fa) : opp (swF f) = swF (opp f) := rfl
def lotO (l : Lot) : List Fa := l.map (lkFa "o")
theorem can_lotO (l : Lot) : canB (lotO l) = canB (lotN l) := by
  have : lotO l = (lotN l).map swF := by simp [lotO, lotN, List.map_map, Function.comp_def, lkFa_o]
  rw [this, can_sw]
theorem can_lotO2 (l : Lot) (k : Lk) : canB (lotO l ++ [opp (lkFa "o" k)]) = canB (lotN l ++ [opp (lkFa "n" k)]) := by
  have : lotO l ++ [opp (lkFa "o" k)] = (lotN l ++ [opp (lkFa "n" k)]).map swF := by simp [lotO, lotN, List.map_map, Function.comp_def, lkFa_o, opp_sw]
  rw [this, can_sw]
/-! ### what is said of valuations -/
def LkH (v : T → Int) (k : Lk) : Prop := Holds v (lkFa "n" k)
theorem opp_holds (v : T → Int) (f : Fa) : Holds v (opp f) ↔ ¬ Holds v f := by
  unfold Holds opp
  cases f.eq <;> simp
theorem can_lotN (l : Lot) : canB (lotN l) = true ↔ ∃ v, Vl v ∧ ∀ k ∈ l, LkH v k := by
  rw [can_iff]
  constructor
  · rintro ⟨v, h1, h2⟩
    exact ⟨v, h1, fun k hk => h2 _ (List.mem_map.mpr ⟨k, hk, rfl⟩)⟩
  · rintro ⟨v, h1, h2⟩
    refine ⟨v, h1, fun f hf => ?_⟩
    obtain ⟨k, hk, rfl⟩ := List.mem_map.mp hf
    exact h2 k hk
theorem can_lotN1 (l : Lot) (k : Lk) : canB (lotN l ++ [opp (lkFa "n" k)]) = true ↔ ∃ v, Vl v ∧ (∀ k ∈ l, LkH v k) ∧ ¬ LkH v k := by
  rw [can_iff]
  constructor
  · rintro ⟨v, h1, h2⟩
    exact ⟨v, h1, fun k hk => h2 _ (by simp [lotN]; exact .inl ⟨k, hk, rfl⟩), (opp_holds v _).mp (h2 _ (by simp))⟩
  · rintro ⟨v, h1, h2, h3⟩
    refine ⟨v, h1, fun f hf => ?_⟩
    rcases List.mem_append.mp hf with hf | hf
    · obtain ⟨k, hk, rfl⟩ := List.mem_map.mp hf
      exact h2 k hk
    · rw [List.mem_singleton.mp hf]
      exact (opp_holds v _).mpr h3
theorem lies_iff (a b : Lot) : liesB a b = true ↔ ∀ v, Vl v → (∀ k ∈ a, LkH v k) → ∀ k ∈ b, LkH v k := by
  unfold liesB
  rw [Bool.not_eq_true', List.any_eq_false]
  constructor
  · intro h v hv ha k hk
    have := h k hk
    rw [can_lotN1] at this
    exact Classical.byContradiction fun n => this ⟨v, hv, ha, n⟩
  · intro h k hk
    rw [can_lotN1]
    rintro ⟨v, hv, ha, n⟩
    exact n (h v hv ha k hk)
theorem idle_iff (w : Win) : idleB w = true ↔ ∀ v, Vl v → ∀ l ∈ w.lots, ∃ k ∈ l, ¬ LkH v k := by
  unfold idleB
  rw [Bool.not_eq_true', List.any_eq_false]
  constructor
  · intro h v hv l hl
    have := h l hl
    rw [can_lotN] at this
    exact Classical.byContradiction fun n => this ⟨v, hv, fun k hk => Classical.byContradiction fun m => n ⟨k, hk, m⟩⟩
  · intro h l hl
    rw [can_lotN]
    rintro ⟨v, hv, g⟩
    obtain ⟨k, hk, n⟩ := h v hv l hl
    exact n (g k hk)
theorem vl_any : ∃ v, Vl v := ⟨fun t => t.2, ⟨fun _ _ => rfl⟩⟩
theorem mem_both {a b : List (List Fa)} {f : List Fa} : f ∈ bothL a b ↔ ∃ x ∈ a, ∃ y ∈ b, f = x ++ y := by
  simp [bothL]
  constructor
  · rintro ⟨x, hx, y, hy, rfl⟩; exact ⟨x, hx, y, hy, rfl⟩
  · rintro ⟨x, hx, y, hy, rfl⟩; exact ⟨x, hx, y, hy, rfl⟩
theorem both_nil (b : List (List Fa)) : bothL [[]] b = b := by simp [bothL]
theorem ways_some (w : Win) : waysL (some w) = prodL (w.lots.map fun l => l.map fun k => [opp (lkFa "n" k)]) := by
  unfold waysL
  simp [prodL, both_nil, unseenL]
theorem ways_none : waysL none = [[]] := by simp [waysL, prodL, both_nil, unseenL]
theorem prod_iff {ls : List Lot} (h1 : 1 ≤ ls.length) (h2 : ls.length ≤ 2) : (prodL (ls.map fun l => l.map fun k => [opp (lkFa "n" k)])).any canB = true ↔ ∃ v, Vl v ∧ ∀ l ∈ ls, ∃ k ∈ l, ¬ LkH v k := by
  rw [List.any_eq_true]
  match ls, h1, h2 with
  | [l], _, _ =>
    simp only [List.map_cons, List.map_nil, prodL, List.foldl_cons, List.foldl_nil, both_nil]
    constructor
    · rintro ⟨f, hf, hc⟩
      obtain ⟨k, hk, rfl⟩ := List.mem_map.mp hf
      obtain ⟨v, hv, hs⟩ := (can_iff _).mp hc
      refine ⟨v, hv, fun m hm => ?_⟩
      rw [List.mem_singleton.mp hm]
      exact ⟨k, hk, (opp_holds v _).mp (hs _ (by simp))⟩
    · rintro ⟨v, hv, h⟩
      obtain ⟨k, hk, n⟩ := h l (by simp)
      refine ⟨_, List.mem_map.mpr ⟨k, hk, rfl⟩, (can_iff _).mpr ⟨v, hv, fun f hf => ?_⟩⟩
      rw [List.mem_singleton.mp hf]
      exact (opp_holds v _).mpr n
  | [l, m], _, _ =>
    simp only [List.map_cons, List.map_nil, prodL, List.foldl_cons, List.foldl_nil, both_nil]
    constructor
    · rintro ⟨f, hf, hc⟩
      obtain ⟨x, hx, y, hy, rfl⟩ := mem_both.mp hf
      obtain ⟨k, hk, rfl⟩ := List.mem_map.mp hx
      obtain ⟨j, hj, rfl⟩ := List.mem_map.mp hy
      obtain ⟨v, hv, hs⟩ := (can_iff _).mp hc
      refine ⟨v, hv, fun z hz => ?_⟩
      rcases List.mem_cons.mp hz with rfl | hz
      · exact ⟨k, hk, (opp_holds v _).mp (hs _ (by simp))⟩
      · rw [List.mem_singleton.mp hz]
        exact ⟨j, hj, (opp_holds v _).mp (hs _ (by simp))⟩
    · rintro ⟨v, hv, h⟩
      obtain ⟨k, hk, n⟩ := h l (by simp)
      obtain ⟨j, hj, n2⟩ := h m (by simp)
      refine ⟨_, mem_both.mpr ⟨_, List.mem_map.mpr ⟨k, hk, rfl⟩, _, List.mem_map.mpr ⟨j, hj, rfl⟩, rfl⟩, (can_iff _).mpr ⟨v, hv, fun f hf => ?_⟩⟩
      simp at hf
      rcases hf with rfl | rfl
      · exact (opp_holds v _).mpr n
      · exact (opp_holds v _).mpr n2
/-! ### windows that are trimmed -/
def unseenB (w : Option Win) : Bool := (waysL w).any canB
theorem unseen_iff {w : Win} (h : w.ok) : unseenB (some w) = true ↔ ∃ v, Vl v ∧ ∀ l ∈ w.lots, ∃ k ∈ l, ¬ LkH v k := by
  unfold unseenB
  rw [ways_some]
  exact prod_iff h.one h.two
theorem unseen_none : unseenB none = true := by
  unfold unseenB
  rw [ways_none]
  decide
theorem unseen_idle {w : Win} (h : w.ok) (hi : idleB w = true) : unseenB (some w) = true := by
  obtain ⟨v, hv⟩ := vl_any
  exact (unseen_iff h).mpr ⟨v, hv, (idle_iff w).mp hi v hv⟩
theorem not_lies {a b : Lot} (h : liesB a b = true) {v : T → Int} (hv : Vl v) (n : ∃ k ∈ b, ¬ LkH v k) : ∃ k ∈ a, ¬ LkH v k := by
  obtain ⟨k, hk, n⟩ := n
  exact Classical.byContradiction fun m => n ((lies_iff a b).mp h v hv (fun j hj => Classical.byContradiction fun z => m ⟨j, hj, z⟩) k hk)
/-- what trimming leaves -/
theorem trimW_some {w w' : Win} (h : w.ok) (e : trimW w = some w') : w'.ok ∧ idleB w' = false ∧ spareB w'.lots = [] ∧ w'.tbl = w.tbl ∧ w'.shown = w.shown ∧ (∀ l ∈ w'.lots, l ∈ w.lots) ∧ unseenB (some w') = unseenB (some w) := by
  unfold trimW at e
  cases hi : idleB w with
  | true => rw [hi] at e; cases e
  | false =>
    rw [hi] at e
    have e : w' = { w with lots := keepAt (spareB w.lots) 0 w.lots } := (Option.some.inj e).symm
    obtain ⟨t, ls, s⟩ := w
    have g1 := h.one
    have g2 := h.two
    have g3 := h.lot
    have g4 := h.shown
    match ls, g1, g2, g3, h, hi, e with
    | [a], _, _, g3, h, hi, e =>
      have : w' = ⟨t, [a], s⟩ := by rw [e]; simp [spareB, keepAt]
      subst this
      exact ⟨h, hi, rfl, rfl, rfl, fun _ h => h, rfl⟩
    | [a, b], _, _, g3, h, hi, e =>
      have ni : ¬ ∀ v, Vl v → ∀ l ∈ ([a, b] : List Lot), ∃ k ∈ l, ¬ LkH v k := fun z => by
        have := (idle_iff ⟨t, [a, b], s⟩).mpr z
        rw [hi] at this; cases this
      have one : ∀ c d : Lot, c ∈ ([a, b] : List Lot) → liesB d c = true → (∀ l ∈ ([a, b] : List Lot), l = c ∨ l = d) → ∀ w', w' = (⟨t, [c], s⟩ : Win) →
          w'.ok ∧ idleB w' = false ∧ spareB w'.lots = [] ∧ w'.tbl = t ∧ w'.shown = s ∧ (∀ l ∈ w'.lots, l ∈ ([a, b] : List Lot)) ∧ unseenB (some w') = unseenB (some ⟨t, [a, b], s⟩) := by
        intro c d hc hl hcd w' ew
        subst ew
        have ok' : Win.ok ⟨t, [c], s⟩ := ⟨by simp, by simp, fun l hl => by rw [List.mem_singleton.mp hl]; exact g3 c hc, g4⟩
        refine ⟨ok', ?_, rfl, rfl, rfl, fun l hl => by rw [List.mem_singleton.mp hl]; exact hc, ?_⟩
        · cases z : idleB ⟨t, [c], s⟩ with
          | false => rfl
          | true =>
            exfalso
            apply ni
            intro v hv l hl'
            have q := (idle_iff _).mp z v hv c (by simp)
            rcases hcd l hl' with rfl | rfl
            · exact q
            · exact not_lies hl hv q
        · have : unseenB (some ⟨t, [c], s⟩) = true ↔ unseenB (some ⟨t, [a, b], s⟩) = true := by
            rw [unseen_iff ok', unseen_iff h]
            constructor
            · rintro ⟨v, hv, q⟩
              refine ⟨v, hv, fun l hl' => ?_⟩
              have q := q c (by simp)
              rcases hcd l hl' with rfl | rfl
              · exact q
              · exact not_lies hl hv q
            · rintro ⟨v, hv, q⟩
              refine ⟨v, hv, fun l hl' => ?_⟩
              rw [List.mem_singleton.mp hl']
              exact q c hc
          exact Bool.eq_iff_iff.mpr this
      cases q1 : liesB b a with
      | true => exact one a b (by simp) q1 (by simp) w' (by rw [e]; simp [spareB, q1, keepAt])
      | false =>
        cases q2 : liesB a b with
        | true => exact one b a (by simp) q2 (by intro l hl; simp at hl; exact hl.symm) w' (by rw [e]; simp [spareB, q1, q2, keepAt])
        | false =>
          have : w' = ⟨t, [a, b], s⟩ := by rw [e]; simp [spareB, q1, q2, keepAt]
          subst this
          exact ⟨h, hi, by simp [spareB, q1, q2], rfl, rfl, fun _ h => h, rfl⟩
theorem trimW_again {w w' : Win} (h : w.ok) (e : trimW w = some w') : trimW w' = some w' := by
  obtain ⟨ok, ni, sp, _⟩ := trimW_some h e
  unfold trimW
  rw [ni, sp]
  have : keepAt [] 0 w'.lots = w'.lots := by
    have : ∀ (n : Nat) (l : List Lot), keepAt [] n l = l := by
      intro n l
      induction l generalizing n with
      | nil => rfl
      | cons a l ih => simp [keepAt, ih]
    exact this 0 _
  rw [this]
  rfl
theorem trimR_again {r : Rol} (h : ∀ w ∈ r.wins, w.ok) : trimR (trimR r) = trimR r := by
  unfold trimR
  congr 1
  simp only
  generalize r.wins = ws at h
  induction ws with
  | nil => rfl
  | cons w ws ih =>
    have ih := ih fun w hw => h w (by simp [hw])
    cases q : trimW w with
    | none => rw [List.filterMap_cons, q]; exact ih
    | some w' =>
      rw [List.filterMap_cons, q]
      simp only
      rw [List.filterMap_cons, trimW_again (h w (by simp)) q]
      simp only
      rw [ih]
theorem trimA_again {A : App} (h : ∀ r ∈ A.rols, ∀ w ∈ r.wins, w.ok) : trimA (trimA A) = trimA A := by
  unfold trimA
  congr 1
  simp only [List.map_map]
  exact List.map_congr_left fun r hr => trimR_again (h r hr)
theorem idles_trim {A : App} (h : ∀ r ∈ A.rols, ∀ w ∈ r.wins, w.ok) : idlesA (trimA A) = [] := by
  unfold idlesA trimA
  simp only
  rw [List.flatMap_eq_nil_iff]
  intro r hr
  obtain ⟨r0, hr0, rfl⟩ := List.mem_map.mp hr
  unfold idlesR
  rw [List.map_eq_nil_iff, List.filter_eq_nil_iff]
  intro w hw
  obtain ⟨w0, hw0, e⟩ := List.mem_filterMap.mp hw
  rw [(trimW_some (h r0 hr0 w0 hw0) e).2.1]
  simp
/-! the law's own spare lots -/
def spareL : List Lot → List Nat
  | [a, b] => if !canB (lotO b) || liesB b a then [1] else if !canB (lotO a) || liesB a b then [0] else []
  | _ => []
theorem lies_of_not {a b : Lot} (h : canB (lotN a) = false) : liesB a b = true := by
  rw [lies_iff]
  intro v hv ha
  have : canB (lotN a) = true := (can_lotN a).mpr ⟨v, hv, ha⟩
  rw [h] at this; cases this
theorem spareL_eq (l : List Lot) : spareL l = spareB l := by
  match l with
  | [] => rfl
  | [a] => rfl
  | a :: b :: c :: r => rfl
  | [a, b] =>
    show (if (!canB (lotO b) || liesB b a) = true then [1] else if (!canB (lotO a) || liesB a b) = true then [0] else []) = (if liesB b a = true then [1] else if liesB a b = true then [0] else [] : List Nat)
    rw [can_lotO, can_lotO]
    have e : ∀ x y : Lot, (!canB (lotN x) || liesB x y) = liesB x y := by
      intro x y
      cases q : canB (lotN x) with
      | true => rfl
      | false => rw [lies_of_not q]; rfl
    rw [e, e]
end K85

set_option maxRecDepth 100000
set_option maxHeartbeats 400000
namespace K85
open PySem L2 DL
@[simp] theorem q_menu {kws : List (Str × EW)} {wk : EW} {en : En} {Q : DV → Prop} : wMenu kws wk en Q = wPairs kws en fun ps => wk en fun y => onD y fun dy => match dy with
  | .str s => match lookS ps s with
    | some d => Q (.d d)
    | none => False
  | _ => False := rfl
@[simp] theorem q_pairs0 {en : En} {Q : List (Str × PyData) → Prop} : wPairs [] en Q = Q [] := rfl
@[simp] theorem q_pairs1 {p : Str × EW} {r : List (Str × EW)} {en : En} {Q : List (Str × PyData) → Prop} : wPairs (p :: r) en Q = p.2 en fun x => onD x fun d => wPairs r en fun ps => Q ((p.1, d) :: ps) := rfl
/-! ### the law's own facts -/
abbrev sp__law_other : SpD := spV (α := Lk) (fun k => [.d (eLk k)]) (fun _ => True) (fun k => eLk (match k.tm with
  | .f n => ⟨k.eq, n, .f k.fld⟩
  | _ => k))
/-! _law_other(look): slots 0 look; calls  -/
def w__law_other : SW :=
    (wSeq (wIf (wOpT eqF (wIx (wIx (wVar 0) (wC (.int 2))) (wC (.int 0))) (wC (.str "f"))) (wRet (wTup [(wIx (wVar 0) (wC (.int 0))), (wIx (wIx (wVar 0) (wC (.int 2))) (wC (.int 1))), (wTup [(wC (.str "f")), (wIx (wVar 0) (wC (.int 1)))])])) wNil)
    (wRet (wVar 0)))
theorem fin__law_other (xs : List DV) (R : DV → Prop) (h : sp__law_other xs R) : w__law_other { nx := fun _ => R (.d .none), rt := R } (startE 1 xs) := by
  obtain ⟨⟨e, n, t⟩, rfl, -, hR⟩ := h
  cases t
  · simpa [w__law_other, startE, eLk, eTm] using hR
  · simpa [w__law_other, startE, eLk, eTm, show (("b" : Str) == "f") = false by decide] using hR
  · simpa [w__law_other, startE, eLk, eTm, show (("c" : Str) == "f") = false by decide] using hR
def fact1 (o : Bool) (k : Lk) : Fa := if o then opp (lkFa "o" k) else lkFa "o" k
def eFaL (l : List Fa) : PyData := .list (l.map eFa)
abbrev sp__law_facts : SpD := spV (α := Bool × Lot × Bool) (fun a => [.d (sq a.1 (a.2.1.map eLk)), .d (.bool a.2.2)]) (fun a => a.2.1.length ≤ 1000) (fun a => eFaL (a.2.1.map (fact1 a.2.2)))
/-! _law_facts(lot, opposite_v): slots 0 lot, 1 opposite_v, 2 facts, 3 sign, 4 field, 5 term, 6 other; calls  -/
def w__law_facts : SW :=
    (wSeq (wOwn 2 [])
    (wSeq (wFor (wSeqI (wVar 0)) (.tp [3, 4, 5])
      (wSeq (wSet 6 (wMenu [("f", (wTup [(wC (.str "o")), (wIx (wVar 5) (wC (.int 1)))])), ("b", (wTup [(wC (.str "v")), (wIx (wVar 5) (wC (.int 1)))])), ("c", (wTup [(wC (.str "c")), (wIx (wVar 5) (wC (.int 1)))]))] (wIx (wVar 5) (wC (.int 0)))))
      (wApp 2 (wTup [(wIx (wTup [(wC (.str "!")), (wC (.str "="))]) (wBlt (one intF) [(wOp neF (wOp eqF (wVar 3) (wC (.str "="))) (wVar 1))])), (wTup [(wC (.str "o")), (wVar 4)]), (wVar 6)]))))
    (wFrz 2 (wRet (wVar 2)))))
theorem nfb : (("f" : Str) = "b") = False := by simp; decide
theorem nfc : (("f" : Str) = "c") = False := by simp; decide
theorem nbc : (("b" : Str) = "c") = False := by simp; decide
theorem lookf {x y z : PyData} : lookS [("f", x), ("b", y), ("c", z)] "f" = some x := by simp [lookS]
theorem lookb {x y z : PyData} : lookS [("f", x), ("b", y), ("c", z)] "b" = some y := by simp [lookS, nfb]
theorem lookc {x y z : PyData} : lookS [("f", x), ("b", y), ("c", z)] "c" = some z := by simp [lookS, nfc, nbc]
theorem sg_same (e o : Bool) : (atI [PyData.str "!", PyData.str "="] (if (!(e == o)) = true then 1 else 0)) = some (eSg (if o then !e else e)) := by
  cases e <;> cases o <;> simp [eSg]
def otherT (t : Tm) : PyData := match t with
  | .f n => .tuple [.str "o", .int n]
  | .b n => .tuple [.str "v", .int n]
  | .c z => .tuple [.str "c", .int z]
theorem menu_ev (t : Tm) (s0 s1 s2 s3 s4 s6 : Option DV) (Q : DV → Prop) (h : Q (.d (otherT t))) : wMenu [("f", (wTup [(wC (.str "o")), (wIx (wVar 5) (wC (.int 1)))])), ("b", (wTup [(wC (.str "v")), (wIx (wVar 5) (wC (.int 1)))])), ("c", (wTup [(wC (.str "c")), (wIx (wVar 5) (wC (.int 1)))]))] (wIx (wVar 5) (wC (.int 0))) [s0, s1, s2, s3, s4, some (.d (eTm t)), s6] Q := by
  cases t with
  | f n =>
    simp only [eTm, q_menu, q_C, q_onD, q_asLd, q_ixT, q_at1, q_args0, q_allD1, q_allD0, q_pairs1, q_pairs0, q_tup, q_args1, q_ix, q_var, q_slot5, q_at0, lookf]
    exact h
  | b n =>
    simp only [eTm, q_menu, q_C, q_onD, q_asLd, q_ixT, q_at1, q_args0, q_allD1, q_allD0, q_pairs1, q_pairs0, q_tup, q_args1, q_ix, q_var, q_slot5, q_at0, lookb]
    exact h
  | c n =>
    simp only [eTm, q_menu, q_C, q_onD, q_asLd, q_ixT, q_at1, q_args0, q_allD1, q_allD0, q_pairs1, q_pairs0, q_tup, q_args1, q_ix, q_var, q_slot5, q_at0, lookc]
    exact h
theorem sign_ev (e o : Bool) (s0 s2 s4 s5 s6 : Option DV) (Q : DV → Prop) (h : Q (.d (eSg (if o then !e else e)))) : wIx (wTup [(wC (.str "!")), (wC (.str "="))]) (wBlt (one intF) [(wOp neF (wOp eqF (wVar 3) (wC (.str "="))) (wVar 1))]) [s0, some (.d (.bool o)), s2, some (.d (eSg e)), s4, s5, s6] Q := by
  simp only [q_ix, q_tup, q_args1, q_args0, q_C, q_allD1, q_allD0, q_blt, q_op, q_var, q_slot3, q_slot1, q_onD, q_eq, q_ne, q_asLd, q_one, q_intB, q_ixT, eSg_eq, v_bool, d_bool, d_str, sg_same, Nat.min_zero]
  exact ⟨by omega, by omega, h⟩
theorem fact1_eq (o : Bool) (k : Lk) : eFa (fact1 o k) = .tuple [eSg (if o then !k.eq else k.eq), .tuple [.str "o", .int k.fld], otherT k.tm] := by
  obtain ⟨e, n, t⟩ := k
  cases o <;> cases t <;> rfl
theorem fin__law_facts (xs : List DV) (R : DV → Prop) (h : sp__law_facts xs R) : w__law_facts { nx := fun _ => R (.d .none), rt := R } (startE 7 xs) := by
  obtain ⟨⟨b, l, o⟩, rfl, hl, hR⟩ := h
  simp only at hl hR
  have main : ∀ (l : Lot) (acc : List PyData) (s0 s3 s4 s5 s6 : Option DV), acc.length + l.length ≤ 1000 → R (.d (.list (acc ++ (l.map (fact1 o)).map eFa))) →
      loopW (.tp [3, 4, 5]) (wSeq (wSet 6 (wMenu [("f", (wTup [(wC (.str "o")), (wIx (wVar 5) (wC (.int 1)))])), ("b", (wTup [(wC (.str "v")), (wIx (wVar 5) (wC (.int 1)))])), ("c", (wTup [(wC (.str "c")), (wIx (wVar 5) (wC (.int 1)))]))] (wIx (wVar 5) (wC (.int 0)))))
        (wApp 2 (wTup [(wIx (wTup [(wC (.str "!")), (wC (.str "="))]) (wBlt (one intF) [(wOp neF (wOp eqF (wVar 3) (wC (.str "="))) (wVar 1))])), (wTup [(wC (.str "o")), (wVar 4)]), (wVar 6)])))
        { nx := wFrz 2 (wRet (wVar 2)) { nx := fun _ => R (.d .none), rt := R }, rt := R } (l.map eLk) [s0, some (.d (.bool o)), some (.l acc), s3, s4, s5, s6] := by
    intro l
    induction l with
    | nil => intro acc s0 s3 s4 s5 s6 _ hR; simpa using hR
    | cons k l ih =>
      intro acc s0 s3 s4 s5 s6 hl hR
      rw [List.length_cons] at hl
      rw [List.map_cons, q_loop1, eLk, q_bindT, q_bindE1, q_bindE1, q_bindE1, q_bindE0]
      show wSeq _ _ _ _
      rw [q_seq, q_set]
      refine menu_ev k.tm _ _ _ _ _ _ _ ⟨trivial, ?_⟩
      rw [sq_nx]
      show wApp _ _ _ [s0, some (.d (.bool o)), some (.l acc), some (.d (eSg k.eq)), some (.d (.int k.fld)), some (.d (eTm k.tm)), some (.d (otherT k.tm))]
      rw [q_app]
      show wTup _ _ _
      rw [q_tup, q_args1]
      refine sign_ev k.eq o _ _ _ _ _ _ ?_
      refine ⟨by rw [sz_eq]; omega, ?_⟩
      refine ih (acc ++ [.tuple [eSg (if o then !k.eq else k.eq), .tuple [.str "o", .int k.fld], otherT k.tm]]) _ _ _ _ _ (by rw [List.length_append]; simp; omega) ?_
      rw [← fact1_eq]
      simpa using hR
  cases b
  · simp only [w__law_facts, startE, sq, q_seq]
    exact main l [] _ _ _ _ _ (by simpa using hl) (by simpa [eFaL] using hR)
  · simp only [w__law_facts, startE, sq, q_seq]
    exact main l [] _ _ _ _ _ (by simpa using hl) (by simpa [eFaL] using hR)
end K85

set_option maxRecDepth 100000
set_option maxHeartbeats 1000000
namespace K85
open PySem L2 DL
/-! ### _law_can -/
def eLs (l : List T) : PyData := .list (l.map eT)
theorem eT_eqv (a b : T) : PyData.eqv (eT a) (eT b) = decide (a = b) := by
  obtain ⟨a1, a2⟩ := a
  obtain ⟨b1, b2⟩ := b
  simp only [eT, PyData.eqv, PyData.eqvAll, Bool.and_true]
  by_cases h1 : a1 = b1
  · by_cases h2 : a2 = b2
    · subst h1 h2; simp
    · simp [h1, h2]
  · simp [h1]
theorem eT_depth (t : T) : (eT t).depth = 1 := by simp [eT, PyData.depth, PyData.depthAll]
theorem in_lot (l : List T) (t : T) : ((l.map eT).any fun y => PyData.eqv y (eT t)) = decide (t ∈ l) := by
  induction l with
  | nil => simp
  | cons a l ih =>
    rw [List.map_cons, List.any_cons, ih, eT_eqv]
    by_cases h : a = t
    · subst h; simp
    · have h' : ¬ t = a := fun e => h e.symm
      simp [h, h']
@[simp] theorem q_inLs {t : T} {l : List T} {Q : PyData → Prop} : inF (eT t) (eLs l) Q = Q (.bool (decide (t ∈ l))) := by
  unfold eLs
  rw [q_inL, in_lot, eT_depth]
  have : min (PyData.depthAll (l.map eT)) 1 ≤ 60 := by have := Nat.min_le_right (PyData.depthAll (l.map eT)) 1; omega
  simp [this]
@[simp] theorem q_ninLs {t : T} {l : List T} {Q : PyData → Prop} : ninF (eT t) (eLs l) Q = Q (.bool (!decide (t ∈ l))) := by
  unfold eLs
  rw [q_ninL, in_lot, eT_depth]
  have : min (PyData.depthAll (l.map eT)) 1 ≤ 60 := by have := Nat.min_le_right (PyData.depthAll (l.map eT)) 1; omega
  simp [this]
abbrev sp__law_can : SpD := spV (α := List Fa) (fun f => [.d (eFaL f)]) (fun f => f.length ≤ 1000) (fun f => .bool (canB f))
/-! _law_can(facts): slots 0 facts, 1 lots, 2 sign, 3 one, 4 other, 5 lot, 6 term, 7 joined; calls  -/
def w__law_can : SW :=
    (wSeq (wOwn 1 [])
    (wSeq (wFor (wSeqI (wVar 0)) (.tp [2, 3, 4])
      (wFor (wSeqI (wTup [(wVar 3), (wVar 4)])) (.nm 6)
        (wIf (wOpT eqF (wBlt (one lenF) [(wLc (wSeqE (wVar 1)) (.nm 5) (wOpT inF (wVar 6) (wVar 5)) (wVar 5) [5])]) (wC (.int 0))) (wApp 1 (wLst [(wVar 6)])) wNil)))
    (wFrz 1 (wSeq (wFor (wSeqI (wVar 0)) (.tp [2, 3, 4])
      (wIf (wOpT eqF (wVar 2) (wC (.str "="))) (wSeq (wSet 7 (wLst []))
        (wSeq (wFor (wSeqI (wVar 1)) (.nm 5)
          (wIf (wOrT (wOpT inF (wVar 3) (wVar 5)) (wOpT inF (wVar 4) (wVar 5))) (wSet 7 (wOp addF (wVar 7) (wVar 5))) wNil))
        (wSet 1 (wOp addF (wLc (wSeqE (wVar 1)) (.nm 5) (wAndT (wOpT ninF (wVar 3) (wVar 5)) (wOpT ninF (wVar 4) (wVar 5))) (wVar 5) [5]) (wLst [(wVar 7)]))))) wNil))
    (wSeq (wFor (wSeqI (wVar 1)) (.nm 5)
      (wSeq (wIf (wOpT gtF (wBlt (one lenF) [(wLc (wSeqE (wVar 5)) (.nm 6) (wOpT eqF (wIx (wVar 6) (wC (.int 0))) (wC (.str "c"))) (wVar 6) [6])]) (wC (.int 1))) (wRet (wC (.bool false))) wNil)
      (wFor (wSeqI (wVar 0)) (.tp [2, 3, 4])
        (wIf (wAndT (wOpT eqF (wVar 2) (wC (.str "!"))) (wAndT (wOpT inF (wVar 3) (wVar 5)) (wOpT inF (wVar 4) (wVar 5)))) (wRet (wC (.bool false))) wNil))))
    (wRet (wC (.bool true))))))))
section
variable {D : DEnds}
theorem addT_len (L : List (List T)) (t : T) : (addT L t).length ≤ L.length + 1 := by
  unfold addT
  split <;> simp
theorem any_filter (L : List (List T)) (p : List T → Bool) : (L.filter p).length = 0 ↔ L.any p = false := by
  rw [List.length_eq_zero_iff, List.filter_eq_nil_iff, List.any_eq_false]
theorem int_len0 {α : Type} {l : List α} {b : Bool} (h : l.length = 0 ↔ b = false) : ((l.length : Int) == 0) = !b := by
  cases b with
  | true =>
    have h1 : ¬ l.length = 0 := fun q => by have := h.mp q; cases this
    have h2 : ¬ (l.length : Int) = 0 := by omega
    exact beq_eq_false_iff_ne.mpr h2
  | false =>
    have h1 := h.mpr rfl
    have h2 : (l.length : Int) = 0 := by omega
    rw [h2]; rfl
/-- one term -/
theorem can_term (L : List (List T)) (t : T) (s0 s2 s3 s4 s5 s7 : Option DV) (hl : L.length < 16777216) (h : ∀ s5, D.nx [s0, some (.l ((addT L t).map eLs)), s2, s3, s4, s5, some (.d (eT t)), s7]) :
    (wIf (wOpT eqF (wBlt (one lenF) [(wLc (wSeqE (wVar 1)) (.nm 5) (wOpT inF (wVar 6) (wVar 5)) (wVar 5) [5])]) (wC (.int 0))) (wApp 1 (wLst [(wVar 6)])) wNil) D [s0, some (.l (L.map eLs)), s2, s3, s4, s5, some (.d (eT t)), s7] := by
  simp
  refine lcW_filter eLs (fun l => decide (t ∈ l)) L (fun l hl Q q => ?_) (by simp; omega) ?_
  · simp
    by_cases z : t ∈ l
    · simpa [z] using q
    · simpa [z] using q
  · simp
    rw [int_len0 (any_filter L fun l => decide (t ∈ l))]
    cases z : L.any (fun l => decide (t ∈ l)) with
    | true =>
      have e2 : addT L t = L := by unfold addT; rw [if_pos z]
      rw [e2] at h
      exact h _
    | false =>
      have e2 : addT L t = L ++ [[t]] := by unfold addT; rw [if_neg (by rw [z]; decide)]
      rw [e2] at h
      refine ⟨hl, ?_⟩
      simpa [eLs] using h s5
abbrev b_can1 : SW := (wFor (wSeqI (wTup [(wVar 3), (wVar 4)])) (.nm 6)
        (wIf (wOpT eqF (wBlt (one lenF) [(wLc (wSeqE (wVar 1)) (.nm 5) (wOpT inF (wVar 6) (wVar 5)) (wVar 5) [5])]) (wC (.int 0))) (wApp 1 (wLst [(wVar 6)])) wNil))
theorem can_loop1 : ∀ (fs : List Fa) (L : List (List T)) (s0 s2 s3 s4 s5 s6 s7 : Option DV), L.length + 2 * fs.length ≤ 10000 →
    (∀ s2 s3 s4 s5 s6, D.nx [s0, some (.l ((fs.foldl (fun l f => addT (addT l f.a) f.b) L).map eLs)), s2, s3, s4, s5, s6, s7]) →
    loopW (.tp [2, 3, 4]) b_can1 D (fs.map eFa) [s0, some (.l (L.map eLs)), s2, s3, s4, s5, s6, s7]
  | [], L, s0, s2, s3, s4, s5, s6, s7, _, h => h _ _ _ _ _
  | f :: fs, L, s0, s2, s3, s4, s5, s6, s7, hl, h => by
    simp only [List.length_cons] at hl
    have l1 := addT_len L f.a
    have l2 := addT_len (addT L f.a) f.b
    rw [List.map_cons, q_loop1, eFa, q_bindT, q_bindE1, q_bindE1, q_bindE1, q_bindE0]
    show b_can1 _ [s0, some (.l (L.map eLs)), some (.d (eSg f.eq)), some (.d (eT f.a)), some (.d (eT f.b)), s5, s6, s7]
    unfold b_can1
    simp only [q_for, q_seqI, q_tup, q_args1, q_args0, q_var, q_slot3, q_slot4, q_allD1, q_allD0, q_onD, q_seqT]
    rw [q_loop1, q_bindN]
    refine can_term L f.a _ _ _ _ _ _ (by omega) fun s5 => ?_
    rw [lp_nx, q_loop1, q_bindN]
    refine can_term (addT L f.a) f.b _ _ _ _ _ _ (by omega) fun s5 => ?_
    rw [lp_nx, q_loop0, lp_nx]
    exact can_loop1 fs _ _ _ _ _ _ _ _ (by omega) h
/-- joined = joined + lot, for the lots that are touched -/
abbrev b_join : SW := (wIf (wOrT (wOpT inF (wVar 3) (wVar 5)) (wOpT inF (wVar 4) (wVar 5))) (wSet 7 (wOp addF (wVar 7) (wVar 5))) wNil)
theorem can_join (a b : T) : ∀ (L : List (List T)) (acc : List T) (s0 s1 s2 s5 s6 : Option DV), acc.length + L.flatten.length ≤ 10000 →
    (∀ s5, D.nx [s0, s1, s2, some (.d (eT a)), some (.d (eT b)), s5, s6, some (.d (eLs (acc ++ (L.filter fun l => decide (a ∈ l) || decide (b ∈ l)).flatten)))]) →
    loopW (.nm 5) b_join D (L.map eLs) [s0, s1, s2, some (.d (eT a)), some (.d (eT b)), s5, s6, some (.d (eLs acc))]
  | [], acc, s0, s1, s2, s5, s6, _, h => by simpa using h s5
  | l :: L, acc, s0, s1, s2, s5, s6, hl, h => by
    simp only [List.flatten_cons, List.length_append] at hl
    rw [List.map_cons, q_loop1, q_bindN]
    show b_join _ [s0, s1, s2, some (.d (eT a)), some (.d (eT b)), some (.d (eLs l)), s6, some (.d (eLs acc))]
    simp only [q_if, q_orT, q_opT, q_var, q_slot3, q_slot4, q_slot5, q_onD, q_inLs, q_asB]
    have yes : (decide (a ∈ l) || decide (b ∈ l)) = true → wSet 7 (wOp addF (wVar 7) (wVar 5)) (D.lp (loopW (.nm 5) b_join D (L.map eLs))) [s0, s1, s2, some (.d (eT a)), some (.d (eT b)), some (.d (eLs l)), s6, some (.d (eLs acc))] := by
      intro q
      have e : addF (eLs acc) (eLs l) = fun Q => acc.length + l.length ≤ sizeLine ∧ Q (eLs (acc ++ l)) := by
        funext Q
        simp [eLs]
      simp only [q_set, q_op, q_var, q_slot7, q_slot5, q_onD, e]
      refine ⟨by rw [sz_eq]; omega, trivial, ?_⟩
      refine can_join a b L (acc ++ l) _ _ _ _ _ (by rw [List.length_append]; omega) fun s5 => ?_
      have := h s5
      rw [List.filter_cons, if_pos q] at this
      simpa using this
    cases za : decide (a ∈ l) with
    | true => exact yes (by rw [za]; rfl)
    | false =>
      cases zb : decide (b ∈ l) with
      | true => exact yes (by rw [za, zb]; rfl)
      | false =>
        simp only [q_nil, lp_nx]
        refine can_join a b L acc _ _ _ _ _ (by omega) fun s5 => ?_
        have := h s5
        rw [List.filter_cons, if_neg (by rw [za, zb]; decide)] at this
        exact this
abbrev b_can2 : SW := (wIf (wOpT eqF (wVar 2) (wC (.str "="))) (wSeq (wSet 7 (wLst []))
        (wSeq (wFor (wSeqI (wVar 1)) (.nm 5)
          (wIf (wOrT (wOpT inF (wVar 3) (wVar 5)) (wOpT inF (wVar 4) (wVar 5))) (wSet 7 (wOp addF (wVar 7) (wVar 5))) wNil))
        (wSet 1 (wOp addF (wLc (wSeqE (wVar 1)) (.nm 5) (wAndT (wOpT ninF (wVar 3) (wVar 5)) (wOpT ninF (wVar 4) (wVar 5))) (wVar 5) [5]) (wLst [(wVar 7)]))))) wNil)
theorem joinF_len (L : List (List T)) (f : Fa) : (joinF L f).length ≤ L.length + 1 := by
  unfold joinF
  split
  · have := List.length_filter_le (fun l => !decide (f.a ∈ l) && !decide (f.b ∈ l)) L
    simp; omega
  · omega
theorem can_loop2 : ∀ (fs : List Fa) (L : List (List T)) (s0 s2 s3 s4 s5 s6 s7 : Option DV), L.length + fs.length ≤ 10000 → L.flatten.length ≤ 10000 →
    (∀ s2 s3 s4 s5 s6 s7, D.nx [s0, some (.d (.list ((fs.foldl joinF L).map eLs))), s2, s3, s4, s5, s6, s7]) →
    loopW (.tp [2, 3, 4]) b_can2 D (fs.map eFa) [s0, some (.d (.list (L.map eLs))), s2, s3, s4, s5, s6, s7]
  | [], L, s0, s2, s3, s4, s5, s6, s7, _, _, h => h _ _ _ _ _ _
  | f :: fs, L, s0, s2, s3, s4, s5, s6, s7, hl, hf, h => by
    simp only [List.length_cons] at hl
    have l1 := joinF_len L f
    have l2 := (join_perm L f).length_eq
    rw [List.map_cons, q_loop1, eFa, q_bindT, q_bindE1, q_bindE1, q_bindE1, q_bindE0]
    show b_can2 _ [s0, some (.d (.list (L.map eLs))), some (.d (eSg f.eq)), some (.d (eT f.a)), some (.d (eT f.b)), s5, s6, s7]
    have rest := fun s2 s3 s4 s5 s6 s7 => can_loop2 fs (joinF L f) s0 s2 s3 s4 s5 s6 s7 (by omega) (by omega) h
    unfold b_can2
    simp only [q_if, q_opT, q_var, q_slot2, q_onD, q_C, q_eq, eSg_eq, q_asB]
    refine ⟨by simp, ?_⟩
    cases q : f.eq with
    | false =>
      have e : joinF L f = L := by unfold joinF; rw [q]; rfl
      rw [e] at rest
      exact rest _ _ _ _ _ _
    | true =>
      simp only [q_seq, q_set, q_lst, q_args0, q_allD0, sq_nx, q_for, q_seqI, q_var, q_slot1, q_onD, q_seqL, List.set]
      refine ⟨trivial, ?_⟩
      refine can_join f.a f.b L [] _ _ _ _ _ (by simpa using hf) fun s5 => ?_
      simp only [sq_nx, q_set, q_op, q_lc, q_seqE, q_var, q_slot1, q_asLd, q_seqL]
      refine lcW_filter eLs (fun l => !decide (f.a ∈ l) && !decide (f.b ∈ l)) L (fun l hl Q hq => ?_) (by rw [sz_eq]; omega) ?_
      · rw [q_bindN]
        show wAndT _ _ [s0, some (.d (.list (L.map eLs))), some (.d (eSg true)), some (.d (eT f.a)), some (.d (eT f.b)), some (.d (eLs l)), s6, _] _
        simp only [q_andT, q_opT, q_var, q_slot3, q_slot4, q_slot5, q_onD, q_ninLs, q_asB]
        cases za : decide (f.a ∈ l) with
        | true => simpa [za] using hq
        | false =>
          cases zb : decide (f.b ∈ l) with
          | true => simpa [za, zb] using hq
          | false => simpa [za, zb] using hq
      · simp only [q_onD, q_lst, q_args1, q_args0, q_var, q_slot7, q_allD1, q_allD0, q_addL]
        refine ⟨by have := List.length_filter_le (fun l => !decide (f.a ∈ l) && !decide (f.b ∈ l)) L; rw [sz_eq]; simp; omega, trivial, ?_⟩
        have e : joinF L f = (L.filter fun l => !decide (f.a ∈ l) && !decide (f.b ∈ l)) ++ [(L.filter fun l => decide (f.a ∈ l) || decide (f.b ∈ l)).flatten] := by unfold joinF; rw [if_pos q]
        have r := rest (some (.d (eSg true))) (some (.d (eT f.a))) (some (.d (eT f.b))) s5 s6 (some (.d (eLs (L.filter fun l => decide (f.a ∈ l) || decide (f.b ∈ l)).flatten)))
        rw [e] at r
        simpa using r
abbrev b_can4 : SW := (wIf (wAndT (wOpT eqF (wVar 2) (wC (.str "!"))) (wAndT (wOpT inF (wVar 3) (wVar 5)) (wOpT inF (wVar 4) (wVar 5)))) (wRet (wC (.bool false))) wNil)
theorem can_loop4 (l : List T) : ∀ (fs : List Fa) (s0 s1 s2 s3 s4 s6 s7 : Option DV),
    (if (fs.all fun f => f.eq || !decide (f.a ∈ l) || !decide (f.b ∈ l)) = true then ∀ s2 s3 s4, D.nx [s0, s1, s2, s3, s4, some (.d (eLs l)), s6, s7] else D.rt (.d (.bool false))) →
    loopW (.tp [2, 3, 4]) b_can4 D (fs.map eFa) [s0, s1, s2, s3, s4, some (.d (eLs l)), s6, s7]
  | [], s0, s1, s2, s3, s4, s6, s7, h => h _ _ _
  | f :: fs, s0, s1, s2, s3, s4, s6, s7, h => by
    rw [List.map_cons, q_loop1, eFa, q_bindT, q_bindE1, q_bindE1, q_bindE1, q_bindE0]
    show b_can4 _ [s0, s1, some (.d (eSg f.eq)), some (.d (eT f.a)), some (.d (eT f.b)), some (.d (eLs l)), s6, s7]
    simp only [q_if, q_andT, q_opT, q_var, q_slot2, q_slot3, q_slot4, q_slot5, q_onD, q_C, q_eq, eSg_ne, q_asB, q_inLs]
    refine ⟨by simp, ?_⟩
    rw [List.all_cons] at h
    cases q : f.eq with
    | true =>
      rw [q] at h
      exact can_loop4 l fs _ _ _ _ _ _ _ (by simpa using h)
    | false =>
      rw [q] at h
      cases za : decide (f.a ∈ l) with
      | false =>
        rw [za] at h
        exact can_loop4 l fs _ _ _ _ _ _ _ (by simpa using h)
      | true =>
        rw [za] at h
        cases zb : decide (f.b ∈ l) with
        | false =>
          rw [zb] at h
          exact can_loop4 l fs _ _ _ _ _ _ _ (by simpa using h)
        | true =>
          rw [zb] at h
          exact h
abbrev b_can3 : SW := (wSeq (wIf (wOpT gtF (wBlt (one lenF) [(wLc (wSeqE (wVar 5)) (.nm 6) (wOpT eqF (wIx (wVar 6) (wC (.int 0))) (wC (.str "c"))) (wVar 6) [6])]) (wC (.int 1))) (wRet (wC (.bool false))) wNil)
      (wFor (wSeqI (wVar 0)) (.tp [2, 3, 4])
        (wIf (wAndT (wOpT eqF (wVar 2) (wC (.str "!"))) (wAndT (wOpT inF (wVar 3) (wVar 5)) (wOpT inF (wVar 4) (wVar 5)))) (wRet (wC (.bool false))) wNil)))
theorem can_loop3 (fs : List Fa) : ∀ (L : List (List T)) (s1 s2 s3 s4 s5 s6 s7 : Option DV), L.flatten.length ≤ 10000 →
    (if (L.all (okLot fs)) = true then ∀ s2 s3 s4 s5, D.nx [some (.d (eFaL fs)), s1, s2, s3, s4, s5, s6, s7] else D.rt (.d (.bool false))) →
    loopW (.nm 5) b_can3 D (L.map eLs) [some (.d (eFaL fs)), s1, s2, s3, s4, s5, s6, s7]
  | [], s1, s2, s3, s4, s5, s6, s7, _, h => h _ _ _ _
  | l :: L, s1, s2, s3, s4, s5, s6, s7, hf, h => by
    rw [List.flatten_cons, List.length_append] at hf
    rw [List.map_cons, q_loop1, q_bindN]
    show b_can3 _ [some (.d (eFaL fs)), s1, s2, s3, s4, some (.d (eLs l)), s6, s7]
    rw [List.all_cons] at h
    simp only [q_seq, q_if, q_opT, q_blt, q_args1, q_args0, q_lc, q_seqE, q_var, q_slot5, q_asLd, eLs, q_seqL]
    refine lcW_filter eT isC l (fun t ht Q hq => ?_) (by rw [sz_eq]; omega) ?_
    · rw [q_bindN]
      show wOpT _ _ _ [some (.d (eFaL fs)), s1, s2, s3, s4, some (.d (eLs l)), some (.d (eT t)), s7] _
      simp only [q_opT, q_ix, q_var, q_slot6, q_C, q_onD, q_asLd, eT, q_ixT, q_at0, q_eq, v_str, q_asB]
      refine ⟨by simp, ?_⟩
      show match isC t with
        | true => _
        | false => _
      cases z : isC t with
      | true => simpa [z, eT] using hq
      | false => simpa [z] using hq
    · simp only [q_one, q_asLd, q_lenL, q_onD, q_C, q_gt, q_asB, List.length_map]
      have e : okLot fs l = (decide ((l.filter isC).length ≤ 1) && fs.all fun f => f.eq || !decide (f.a ∈ l) || !decide (f.b ∈ l)) := rfl
      rw [e] at h
      by_cases z : (l.filter isC).length ≤ 1
      · have z1 : decide ((1 : Int) < ((l.filter isC).length : Int)) = false := decide_eq_false (by omega)
        rw [z1]
        simp only [q_nil, sq_nx, q_for, q_seqI, q_var, q_slot0, q_onD, eFaL, q_seqL]
        refine can_loop4 l fs _ _ _ _ _ _ _ ?_
        rw [decide_eq_true z, Bool.true_and] at h
        cases y : fs.all fun f => f.eq || !decide (f.a ∈ l) || !decide (f.b ∈ l) with
        | true =>
          rw [y, Bool.true_and] at h
          rw [if_pos rfl]
          intro s2 s3 s4
          exact can_loop3 fs L _ _ _ _ _ _ _ (by omega) h
        | false =>
          rw [y, Bool.false_and] at h
          rw [if_neg (by decide)]
          simpa using h
      · have z1 : decide ((1 : Int) < ((l.filter isC).length : Int)) = true := decide_eq_true (by omega)
        rw [z1]
        rw [decide_eq_false z, Bool.false_and, Bool.false_and] at h
        simpa using h
end
theorem lots0_flat (fs : List Fa) : ∀ L : List (List T), (fs.foldl (fun l f => addT (addT l f.a) f.b) L).flatten.length ≤ L.flatten.length + 2 * fs.length ∧ (fs.foldl (fun l f => addT (addT l f.a) f.b) L).length ≤ L.length + 2 * fs.length := by
  have one : ∀ (L : List (List T)) (t : T), (addT L t).flatten.length ≤ L.flatten.length + 1 := by
    intro L t
    unfold addT
    split
    · omega
    · rw [List.flatten_append, List.length_append]; simp
  induction fs with
  | nil => intro L; exact ⟨by simp, by simp⟩
  | cons f fs ih =>
    intro L
    obtain ⟨h1, h2⟩ := ih (addT (addT L f.a) f.b)
    have a1 := one L f.a
    have a2 := one (addT L f.a) f.b
    have b1 := addT_len L f.a
    have b2 := addT_len (addT L f.a) f.b
    rw [List.foldl_cons, List.length_cons]
    omega
theorem fin__law_can (xs : List DV) (R : DV → Prop) (h : sp__law_can xs R) : w__law_can { nx := fun _ => R (.d .none), rt := R } (startE 8 xs) := by
  obtain ⟨fs, rfl, hl, hR⟩ := h
  simp only at hl hR
  have g1 := lots0_flat fs []
  have e0 : lots0 fs = fs.foldl (fun l f => addT (addT l f.a) f.b) [] := rfl
  have g2 := (lots1_inv fs (lots0 fs)).1.length_eq
  have e1 : lots1 fs = fs.foldl joinF (lots0 fs) := rfl
  rw [← e0] at g1
  rw [← e1] at g2
  simp only [List.flatten_nil, List.length_nil] at g1
  simp only [w__law_can, startE, q_seq, q_own, q_args0, q_allD0, sq_nx]
  show wFor _ _ _ _ [some (.d (eFaL fs)), some (.l []), none, none, none, none, none, none]
  simp only [q_for, q_seqI, q_var, q_slot0, q_onD, eFaL, q_seqL]
  refine can_loop1 fs [] _ _ _ _ _ _ _ (by simp; omega) fun s2 s3 s4 s5 s6 => ?_
  rw [← e0]
  simp only [sq_nx, q_frz, q_slot1]
  show wSeq _ _ _ [some (.d (eFaL fs)), some (.d (.list ((lots0 fs).map eLs))), s2, s3, s4, s5, s6, none]
  simp only [q_seq, q_for, q_seqI, q_var, q_slot0, q_onD, eFaL, q_seqL]
  refine can_loop2 fs (lots0 fs) _ _ _ _ _ _ _ (by omega) (by omega) fun s2 s3 s4 s5 s6 s7 => ?_
  rw [← e1]
  simp only [sq_nx, q_seq, q_for, q_seqI, q_var, q_slot1, q_onD, q_seqL]
  refine can_loop3 fs (lots1 fs) _ _ _ _ _ _ _ (by omega) ?_
  show if canB fs = true then _ else _
  cases z : canB fs with
  | true =>
    rw [if_pos rfl]
    intro s2 s3 s4 s5
    rw [z] at hR
    exact hR
  | false =>
    rw [if_neg (by decide)]
    rw [z] at hR
    exact hR
end K85

set_option maxRecDepth 100000
set_option maxHeartbeats 1000000
namespace K85
open PySem L2 DL
theorem facts_lot (l : Lot) : l.map (fact1 false) = lotO l := rfl
theorem facts_opp (k : Lk) : [k].map (fact1 true) = [opp (lkFa "o" k)] := rfl
abbrev sp__law_inside : SpD := spV (α := Lot × Lot) (fun a => [.d (eLot a.1), .d (eLot a.2)]) (fun a => a.1.length ≤ 100 ∧ a.2.length ≤ 100) (fun a => .bool (liesB a.1 a.2))
/-! _law_inside(lot, other): slots 0 lot, 1 other, 2 look; calls _law_can, _law_facts -/
def w__law_inside : SW :=
    (wSeq (wFor (wSeqI (wVar 1)) (.nm 2)
      (wIf (wTru (wCall sp__law_can [(wOp addF (wCall sp__law_facts [(wVar 0), (wC (.bool false))]) (wCall sp__law_facts [(wLst [(wVar 2)]), (wC (.bool true))]))])) (wRet (wC (.bool false))) wNil))
    (wRet (wC (.bool true))))
section
variable {D : DEnds}
theorem inside_loop (a : Lot) (ha : a.length ≤ 100) : ∀ (b : Lot) (s1 s2 : Option DV), (if liesB a b = true then ∀ s2, D.nx [some (.d (eLot a)), s1, s2] else D.rt (.d (.bool false))) →
    loopW (.nm 2) (wIf (wTru (wCall sp__law_can [(wOp addF (wCall sp__law_facts [(wVar 0), (wC (.bool false))]) (wCall sp__law_facts [(wLst [(wVar 2)]), (wC (.bool true))]))])) (wRet (wC (.bool false))) wNil) D (b.map eLk) [some (.d (eLot a)), s1, s2]
  | [], s1, s2, h => h _
  | k :: b, s1, s2, h => by
    rw [List.map_cons, q_loop1, q_bindN]
    show wIf _ _ _ _ [some (.d (eLot a)), s1, some (.d (eLk k))]
    simp only [q_if, q_tru, q_call, q_args1, q_args0, q_op, q_var, q_slot0, q_slot2, q_C, q_lst, q_allD1, q_allD0, q_noLs1, q_noLs0, q_noL, true_and, and_true]
    refine ⟨(false, a, false), rfl, by show a.length ≤ 1000; omega, ?_⟩
    simp only [q_noL, true_and, q_onD]
    refine ⟨(true, [k], true), rfl, by simp, ?_⟩
    simp only [q_noL, true_and, q_onD, facts_lot, facts_opp, eFaL, q_addL]
    refine ⟨by rw [sz_eq]; simp [lotO]; omega, ?_⟩
    refine ⟨lotO a ++ [opp (lkFa "o" k)], by simp [eFaL], by simp [lotO]; omega, trivial, ?_⟩
    simp only [q_truV, q_truB, can_lotO2]
    have e : liesB a (k :: b) = (!canB (lotN a ++ [opp (lkFa "n" k)]) && liesB a b) := by
      unfold liesB
      rw [List.any_cons, Bool.not_or]
    rw [e] at h
    cases q : canB (lotN a ++ [opp (lkFa "n" k)]) with
    | true =>
      rw [q] at h
      exact h
    | false =>
      rw [q, Bool.not_false, Bool.true_and] at h
      exact inside_loop a ha b _ _ h
end
theorem fin__law_inside (xs : List DV) (R : DV → Prop) (h : sp__law_inside xs R) : w__law_inside { nx := fun _ => R (.d .none), rt := R } (startE 3 xs) := by
  obtain ⟨⟨a, b⟩, rfl, ⟨h1, h2⟩, hR⟩ := h
  simp only at h1 h2 hR
  simp only [w__law_inside, startE, q_seq]
  show wFor _ _ _ _ [some (.d (eLot a)), some (.d (eLot b)), none]
  simp only [q_for, q_seqI, q_var, q_slot1, q_onD, eLot, q_seqT]
  refine inside_loop a h1 b _ _ ?_
  cases q : liesB a b with
  | true => rw [if_pos rfl]; intro s2; rw [q] at hR; exact hR
  | false => rw [if_neg (by decide)]; rw [q] at hR; exact hR
abbrev sp__law_spare : SpD := spV (α := List Lot) (fun a => [.d (.tuple (a.map eLot))]) (fun a => a.length ≤ 2 ∧ ∀ l ∈ a, l.length ≤ 100) (fun a => eNats (spareB a))
/-! _law_spare(lots): slots 0 lots, 1 first, 2 second; calls _law_can, _law_facts, _law_inside -/
def w__law_spare : SW :=
    (wSeq (wIf (wOpT ltF (wBlt (one lenF) [(wVar 0)]) (wC (.int 2))) (wRet (wTup [])) wNil)
    (wSeq (wSet 1 (wOr (wNotV (wCall sp__law_can [(wCall sp__law_facts [(wIx (wVar 0) (wC (.int 0))), (wC (.bool false))])])) (wCall sp__law_inside [(wIx (wVar 0) (wC (.int 0))), (wIx (wVar 0) (wC (.int 1)))])))
    (wSeq (wSet 2 (wOr (wNotV (wCall sp__law_can [(wCall sp__law_facts [(wIx (wVar 0) (wC (.int 1))), (wC (.bool false))])])) (wCall sp__law_inside [(wIx (wVar 0) (wC (.int 1))), (wIx (wVar 0) (wC (.int 0)))])))
    (wSeq (wIf (wTru (wVar 2)) (wRet (wTup [(wC (.int 1))])) wNil)
    (wRet (wOp repF (wTup [(wC (.int 0))]) (wBlt (one intF) [(wVar 1)])))))))
theorem fin__law_spare (xs : List DV) (R : DV → Prop) (h : sp__law_spare xs R) : w__law_spare { nx := fun _ => R (.d .none), rt := R } (startE 3 xs) := by
  obtain ⟨a, rfl, ⟨h1, h2⟩, hR⟩ := h
  simp only at h1 h2 hR
  match a, h1, h2 with
  | [], _, _ => simpa [w__law_spare, startE, spareB, eNats] using hR
  | [l], _, _ => simpa [w__law_spare, startE, spareB, eNats] using hR
  | [l, m], _, h2 =>
    have g1 := h2 l (by simp)
    have g2 := h2 m (by simp)
    have one : ∀ (a b : Lot), a.length ≤ 100 → b.length ≤ 100 → ∀ (en : En) (wa wb : EW) (Q : DV → Prop), (∀ Q, wa en Q = Q (.d (eLot a))) → (∀ Q, wb en Q = Q (.d (eLot b))) → Q (.d (.bool (liesB a b))) →
        (wOr (wNotV (wCall sp__law_can [(wCall sp__law_facts [wa, (wC (.bool false))])])) (wCall sp__law_inside [wa, wb])) en Q := by
      intro a b ga gb en wa wb Q ea eb hQ
      simp only [q_or, q_notV, q_call, q_args1, q_args0, ea, eb, q_C, q_noLs1, q_noLs0, q_noL, true_and, and_true]
      refine ⟨(false, a, false), rfl, by show a.length ≤ 1000; omega, ?_⟩
      simp only [q_noL, true_and, q_noLs1, q_noLs0]
      refine ⟨lotO a, rfl, by simp [lotO]; omega, ?_⟩
      simp only [q_noL, true_and, q_truV, q_truB, q_onD, q_asB, can_lotO]
      cases q : canB (lotN a) with
      | true => exact ⟨(a, b), rfl, ⟨ga, gb⟩, trivial, hQ⟩
      | false => rw [lies_of_not q] at hQ; exact hQ
    simp only [w__law_spare, startE, q_seq, q_if, q_opT]
    show wBlt _ _ [some (.d (.tuple [eLot l, eLot m])), none, none] _
    simp only [q_blt, q_args1, q_args0, q_var, q_slot0, q_one, q_asLd, q_lenT, q_onD, q_C, q_lt, q_asB, List.length_cons, List.length_nil]
    rw [show decide (((0 + 1 + 1 : Nat) : Int) < 2) = false by decide]
    simp only [q_nil, sq_nx, q_seq, q_set]
    refine one l m g1 g2 _ _ _ _ (fun Q => by simp) (fun Q => by simp) ?_
    refine ⟨trivial, ?_⟩
    refine one m l g2 g1 _ _ _ _ (fun Q => by simp) (fun Q => by simp) ?_
    refine ⟨trivial, ?_⟩
    simp
    cases q : liesB m l with
    | true => simpa [spareB, q, eNats, eInt] using hR
    | false =>
      cases z : liesB l m with
      | true => simpa [spareB, q, z, eNats, eInt, repF] using hR
      | false => simpa [spareB, q, z, eNats, eInt, repF] using hR
abbrev sp__law_idle : SpD := spV (α := List Lot) (fun a => [.d (.tuple (a.map eLot))]) (fun a => a.length ≤ 100 ∧ ∀ l ∈ a, l.length ≤ 100) (fun a => .bool (!(a.any fun l => canB (lotN l))))
/-! _law_idle(lots): slots 0 lots, 1 lot; calls _law_can, _law_facts -/
def w__law_idle : SW :=
    (wRet (wOp eqF (wBlt (one lenF) [(wLc (wSeqE (wVar 0)) (.nm 1) (wTru (wCall sp__law_can [(wCall sp__law_facts [(wVar 1), (wC (.bool false))])])) (wVar 1) [1])]) (wC (.int 0))))
theorem fin__law_idle (xs : List DV) (R : DV → Prop) (h : sp__law_idle xs R) : w__law_idle { nx := fun _ => R (.d .none), rt := R } (startE 2 xs) := by
  obtain ⟨a, rfl, ⟨h1, h2⟩, hR⟩ := h
  simp only at h1 h2 hR
  simp [w__law_idle, startE]
  refine lcW_filter eLot (fun l => canB (lotN l)) a (fun l hl Q q => ?_) (by simp; omega) ?_
  · simp
    refine ⟨(false, l, false), rfl, by have := h2 l hl; show l.length ≤ 1000; omega, trivial, ?_⟩
    refine ⟨lotO l, rfl, by have := h2 l hl; simp [lotO]; omega, trivial, ?_⟩
    show match canB (lotO l) with
      | true => _
      | false => _
    rw [can_lotO]
    cases z : canB (lotN l) with
    | true => simpa [z] using q
    | false => simpa [z] using q
  · have e : (((a.filter fun l => canB (lotN l)).length : Int) == 0) = !(a.any fun l => canB (lotN l)) := int_len0 (by rw [List.length_eq_zero_iff, List.filter_eq_nil_iff, List.any_eq_false])
    rw [List.length_map, e]
    exact hR
end K85

set_option maxRecDepth 100000
set_option maxHeartbeats 1000000
namespace K85
open PySem L2 DL
/-! ### _law_trimmed -/
abbrev sp__law_trimmed : SpD := spV (α := App) (fun a => [.d (eApp a)]) (fun a => a.rols.length ≤ 1000 ∧ ∀ r ∈ a.rols, r.wins.length ≤ 1000 ∧ ∀ w ∈ r.wins, w.ok) (fun a => eApp (trimA a))
/-! _law_trimmed(app): slots 0 app, 1 roles, 2 name, 3 badge, 4 windows, 5 kept, 6 table, 7 lots, 8 shown, 9 spare, 10 at, 11 lot; calls _law_idle, _law_spare -/
def w__law_trimmed : SW :=
    (wSeq (wOwn 1 [])
    (wSeq (wFor (wSeqI (wIx (wVar 0) (wC (.int 1)))) (.tp [2, 3, 4])
      (wSeq (wOwn 5 [])
      (wSeq (wFor (wSeqI (wVar 4)) (.tp [6, 7, 8])
        (wSeq (wSet 9 (wCall sp__law_spare [(wVar 7)]))
        (wIf (wNotT (wTru (wCall sp__law_idle [(wVar 7)]))) (wApp 5 (wTup [(wVar 6), (wBlt (one tupF) [(wLc (wEnum (wVar 7)) (.tp [10, 11]) (wOpT ninF (wVar 10) (wVar 9)) (wVar 11) [10, 11])]), (wVar 8)])) wNil)))
      (wFrz 5 (wApp 1 (wTup [(wVar 2), (wVar 3), (wBlt (one tupF) [(wVar 5)])]))))))
    (wFrz 1 (wRet (wTup [(wIx (wVar 0) (wC (.int 0))), (wBlt (one tupF) [(wVar 1)]), (wIx (wVar 0) (wC (.int 2))), (wIx (wVar 0) (wC (.int 3)))])))))
section
variable {D : DEnds}
theorem keep2L (lots : List Lot) (h1 : 1 ≤ lots.length) (h2 : lots.length ≤ 2) (s0 s1 s2 s3 s4 s5 s6 s8 : Option DV) (k : List PyData → Prop) (hk : k ((keepAt (spareB lots) 0 lots).map eLot)) :
    lcW (.tp [10, 11]) (wOpT ninF (wVar 10) (wVar 9)) (wVar 11) (enumD (lots.map eLot) 0) [s0, s1, s2, s3, s4, s5, s6, some (.d (.tuple (lots.map eLot))), s8, some (.d (eNats (spareB lots))), none, none] [] k := by
  match lots, h1, h2 with
  | [a], _, _ => simpa [lcW, enumD, spareB, keepAt, eNats, PyData.depthAll] using hk
  | [a, b], _, _ =>
    cases q : liesB b a with
    | true => simpa [lcW, enumD, spareB, q, keepAt, eNats, eInt, PyData.depthAll] using hk
    | false =>
      cases z : liesB a b with
      | true => simpa [lcW, enumD, spareB, q, z, keepAt, eNats, eInt, PyData.depthAll] using hk
      | false => simpa [lcW, enumD, spareB, q, z, keepAt, eNats, eInt, PyData.depthAll] using hk
abbrev b_trim : SW := (wSeq (wSet 9 (wCall sp__law_spare [(wVar 7)]))
        (wIf (wNotT (wTru (wCall sp__law_idle [(wVar 7)]))) (wApp 5 (wTup [(wVar 6), (wBlt (one tupF) [(wLc (wEnum (wVar 7)) (.tp [10, 11]) (wOpT ninF (wVar 10) (wVar 9)) (wVar 11) [10, 11])]), (wVar 8)])) wNil))
theorem trim_in : ∀ (ws : List Win) (acc : List PyData) (s0 s1 s2 s3 s4 s6 s7 s8 s9 : Option DV), (∀ w ∈ ws, w.ok) → acc.length + ws.length ≤ 1000 →
    (∀ s6 s7 s8 s9, D.nx [s0, s1, s2, s3, s4, some (.l (acc ++ (ws.filterMap trimW).map eWin)), s6, s7, s8, s9, none, none]) →
    loopW (.tp [6, 7, 8]) b_trim D (ws.map eWin) [s0, s1, s2, s3, s4, some (.l acc), s6, s7, s8, s9, none, none]
  | [], acc, s0, s1, s2, s3, s4, s6, s7, s8, s9, _, _, h => by simpa using h s6 s7 s8 s9
  | w :: ws, acc, s0, s1, s2, s3, s4, s6, s7, s8, s9, hw, hl, h => by
    have g := hw w (by simp)
    rw [List.length_cons] at hl
    rw [List.map_cons, q_loop1, eWin, q_bindT, q_bindE1, q_bindE1, q_bindE1, q_bindE0]
    show b_trim _ [s0, s1, s2, s3, s4, some (.l acc), some (.d (.str w.tbl)), some (.d (.tuple (w.lots.map eLot))), some (.d (.tuple (w.shown.map eInt))), s9, none, none]
    simp only [q_seq, q_set, q_call, q_args1, q_args0, q_var, q_slot7, q_noLs1, q_noLs0, q_noL, true_and, and_true]
    refine ⟨w.lots, rfl, ⟨g.two, fun l hl => by have := g.lot l hl; omega⟩, trivial, ?_⟩
    refine ⟨trivial, ?_⟩
    rw [sq_nx]
    show wIf _ _ _ _ [s0, s1, s2, s3, s4, some (.l acc), some (.d (.str w.tbl)), some (.d (.tuple (w.lots.map eLot))), some (.d (.tuple (w.shown.map eInt))), some (.d (eNats (spareB w.lots))), none, none]
    simp only [q_if, q_notT, q_tru, q_call, q_args1, q_args0, q_var, q_slot7, q_noLs1, q_noLs0, q_noL, true_and, and_true]
    refine ⟨w.lots, rfl, ⟨by have := g.two; omega, fun l hl => by have := g.lot l hl; omega⟩, trivial, ?_⟩
    show match !idleB w with
      | true => _
      | false => _
    cases q : idleB w with
    | true =>
      have e : trimW w = none := by simp [trimW, q]
      rw [List.filterMap_cons, e] at h
      exact trim_in ws acc _ _ _ _ _ _ _ _ _ (fun w h => hw w (by simp [h])) (by omega) h
    | false =>
      have e : trimW w = some { w with lots := keepAt (spareB w.lots) 0 w.lots } := by simp [trimW, q]
      rw [List.filterMap_cons, e] at h
      simp only [q_app, q_slot5, q_tup, q_args1, q_args0, q_var, q_slot6, q_blt, q_lc, q_enum, q_slot7, q_asLd, q_seqT, q_onD]
      refine keep2L w.lots g.one g.two _ _ _ _ _ _ _ _ _ ?_
      simp only [q_one, q_asLd, q_tupL, q_slot8, q_allD1, q_allD0, q_onD]
      refine ⟨by rw [sz_eq]; omega, ?_⟩
      refine trim_in ws _ _ _ _ _ _ _ _ _ _ (fun w h => hw w (by simp [h])) (by rw [List.length_append]; simp; omega) ?_
      simpa [eWin] using h
end
theorem fin__law_trimmed (xs : List DV) (R : DV → Prop) (h : sp__law_trimmed xs R) : w__law_trimmed { nx := fun _ => R (.d .none), rt := R } (startE 12 xs) := by
  obtain ⟨A, rfl, ⟨h1, h2⟩, hR⟩ := h
  simp only at h1 h2 hR
  have main : ∀ (D : DEnds) (rs : List Rol) (acc : List PyData) (s0 s2 s3 s4 s5 s6 s7 s8 s9 : Option DV), (∀ r ∈ rs, r.wins.length ≤ 1000 ∧ ∀ w ∈ r.wins, w.ok) → acc.length + rs.length ≤ 1000 →
      (∀ s2 s3 s4 s5 s6 s7 s8 s9, D.nx [s0, some (.l (acc ++ (rs.map trimR).map eRol)), s2, s3, s4, s5, s6, s7, s8, s9, none, none]) →
      loopW (.tp [2, 3, 4]) (wSeq (wOwn 5 [])
      (wSeq (wFor (wSeqI (wVar 4)) (.tp [6, 7, 8]) b_trim)
      (wFrz 5 (wApp 1 (wTup [(wVar 2), (wVar 3), (wBlt (one tupF) [(wVar 5)])]))))) D (rs.map eRol) [s0, some (.l acc), s2, s3, s4, s5, s6, s7, s8, s9, none, none] := by
    intro D rs
    induction rs with
    | nil => intro acc s0 s2 s3 s4 s5 s6 s7 s8 s9 _ _ h; simpa using h s2 s3 s4 s5 s6 s7 s8 s9
    | cons r rs ih =>
      intro acc s0 s2 s3 s4 s5 s6 s7 s8 s9 hr hl h
      have g := hr r (by simp)
      rw [List.length_cons] at hl
      rw [List.map_cons, q_loop1, eRol, q_bindT, q_bindE1, q_bindE1, q_bindE1, q_bindE0]
      show wSeq _ _ _ [s0, some (.l acc), some (.d (.str r.name)), some (.d (.tuple (r.badge.map .str))), some (.d (.tuple (r.wins.map eWin))), s5, s6, s7, s8, s9, none, none]
      simp only [q_seq, q_own, q_args0, q_allD0, sq_nx]
      show wFor _ _ _ _ [s0, some (.l acc), some (.d (.str r.name)), some (.d (.tuple (r.badge.map .str))), some (.d (.tuple (r.wins.map eWin))), some (.l []), s6, s7, s8, s9, none, none]
      simp only [q_for, q_seqI, q_var, q_slot4, q_onD, q_seqT]
      refine trim_in r.wins [] _ _ _ _ _ _ _ _ _ g.2 (by simpa using g.1) fun s6 s7 s8 s9 => ?_
      simp only [sq_nx, q_frz, q_slot5, List.nil_append]
      show wApp _ _ _ [s0, some (.l acc), some (.d (.str r.name)), some (.d (.tuple (r.badge.map .str))), some (.d (.tuple (r.wins.map eWin))), some (.d (.list ((r.wins.filterMap trimW).map eWin))), s6, s7, s8, s9, none, none]
      simp only [q_app, q_slot1, q_tup, q_args1, q_args0, q_var, q_slot2, q_slot3, q_blt, q_slot5, q_one, q_asLd, q_tupL, q_allD1, q_allD0, q_onD]
      refine ⟨by rw [sz_eq]; omega, ?_⟩
      refine ih _ _ _ _ _ _ _ _ _ _ (fun r h => hr r (by simp [h])) (by rw [List.length_append]; simp; omega) fun s2 s3 s4 s5 s6 s7 s8 s9 => ?_
      simpa [eRol, trimR] using h s2 s3 s4 s5 s6 s7 s8 s9
  simp only [w__law_trimmed, startE, q_seq, q_own, q_args0, q_allD0, sq_nx]
  show wFor _ _ _ _ [some (.d (eApp A)), some (.l []), none, none, none, none, none, none, none, none, none, none]
  simp only [q_for, q_seqI, q_ix, q_var, q_slot0, q_C, q_onD, q_asLd, eApp, q_ixT, q_at1, q_seqT]
  refine main _ A.rols [] _ _ _ _ _ _ _ _ _ h2 (by simpa using h1) fun s2 s3 s4 s5 s6 s7 s8 s9 => ?_
  simp only [sq_nx, q_frz, q_slot1, List.nil_append]
  simpa [eApp, trimA] using hR
/-! ### _law_unseen -/
abbrev sp__law_unseen : SpD := spV (α := Win) (fun w => [.d (.tuple (w.lots.map eLot))]) (fun w => w.ok) (fun w => .bool (unseenB (some w)))
/-! _law_unseen(lots): slots 0 lots, 1 ways, 2 lot, 3 more, 4 way, 5 look; calls _law_can, _law_facts -/
def w__law_unseen : SW :=
    (wSeq (wSet 1 (wLst [(wLst [])]))
    (wSeq (wFor (wSeqI (wVar 0)) (.nm 2)
      (wSeq (wSet 3 (wLst []))
      (wSeq (wFor (wSeqI (wVar 1)) (.nm 4)
        (wSet 3 (wOp addF (wVar 3) (wLc (wSeqE (wVar 2)) (.nm 5) wYes (wOp addF (wVar 4) (wCall sp__law_facts [(wLst [(wVar 5)]), (wC (.bool true))])) [5]))))
      (wSet 1 (wVar 3)))))
    (wRet (wOp gtF (wBlt (one lenF) [(wLc (wSeqE (wVar 1)) (.nm 4) (wTru (wCall sp__law_can [(wVar 4)])) (wVar 4) [4])]) (wC (.int 0))))))
def unseenO (ls : List Lot) : List (List Fa) := prodL (ls.map fun l => l.map fun k => [opp (lkFa "o" k)])
theorem unseenO_eq (w : Win) : (unseenO w.lots).any canB = unseenB (some w) := by
  unfold unseenB
  rw [ways_some]
  have e : unseenO w.lots = (prodL (w.lots.map fun l => l.map fun k => [opp (lkFa "n" k)])).map fun f => f.map swF := by
    unfold unseenO prodL
    have both : ∀ a b : List (List Fa), bothL (a.map fun f => f.map swF) (b.map fun f => f.map swF) = (bothL a b).map fun f => f.map swF := by
      intro a b
      simp [bothL, List.map_flatMap, List.flatMap_map, Function.comp_def]
    have gen : ∀ (ls : List Lot) (acc : List (List Fa)), (ls.map fun l => l.map fun k => [opp (lkFa "o" k)]).foldl bothL (acc.map fun f => f.map swF) = ((ls.map fun l => l.map fun k => [opp (lkFa "n" k)]).foldl bothL acc).map fun f => f.map swF := by
      intro ls
      induction ls with
      | nil => intro acc; rfl
      | cons l ls ih =>
        intro acc
        simp only [List.map_cons, List.foldl_cons]
        have : (l.map fun k => [opp (lkFa "o" k)]) = (l.map fun k => [opp (lkFa "n" k)]).map fun f => f.map swF := by
          simp [List.map_map, Function.comp_def, lkFa_o, opp_sw]
        rw [this, both, ih]
    exact gen w.lots [[]]
  rw [e, List.any_map]
  congr 1
  funext f
  exact can_sw f
end K85

set_option maxRecDepth 100000
set_option maxHeartbeats 1000000
namespace K85
open PySem L2 DL
section
variable {D : DEnds}
abbrev b_uns : SW := (wSet 3 (wOp addF (wVar 3) (wLc (wSeqE (wVar 2)) (.nm 5) wYes (wOp addF (wVar 4) (wCall sp__law_facts [(wLst [(wVar 5)]), (wC (.bool true))])) [5])))
theorem uns_in (l : Lot) (hl : l.length ≤ 4) : ∀ (W acc : List (List Fa)) (s0 s1 s4 s5 : Option DV), (∀ f ∈ W, f.length ≤ 10) → acc.length + W.length * l.length ≤ 10000 →
    (∀ s4 s5, D.nx [s0, s1, some (.d (eLot l)), some (.d (.list ((acc ++ bothL W (l.map fun k => [opp (lkFa "o" k)])).map eFaL))), s4, s5]) →
    loopW (.nm 4) b_uns D (W.map eFaL) [s0, s1, some (.d (eLot l)), some (.d (.list (acc.map eFaL))), s4, s5]
  | [], acc, s0, s1, s4, s5, _, _, h => by simpa [bothL] using h s4 s5
  | f :: W, acc, s0, s1, s4, s5, hf, hb, h => by
    rw [List.length_cons, Nat.add_mul] at hb
    rw [List.map_cons, q_loop1, q_bindN]
    show b_uns _ [s0, s1, some (.d (eLot l)), some (.d (.list (acc.map eFaL))), some (.d (eFaL f)), s5]
    simp only [q_set, q_op, q_var, q_slot3, q_onD, q_lc, q_seqE, q_slot2, q_asLd, eLot, q_seqT]
    have gf := hf f (by simp)
    refine lcW_map eLk (fun k => eFaL (f ++ [opp (lkFa "o" k)])) l (fun k hk Q q => ?_) (by rw [sz_eq]; omega) ?_
    · rw [q_bindN]
      show wOp _ _ _ [s0, s1, some (.d (eLot l)), some (.d (.list (acc.map eFaL))), some (.d (eFaL f)), some (.d (eLk k))] _
      simp only [q_op, q_var, q_slot4, q_onD, q_call, q_args1, q_args0, q_lst, q_slot5, q_allD1, q_allD0, q_C, q_noLs1, q_noLs0, q_noL, true_and, and_true]
      refine ⟨(true, [k], true), rfl, by simp, trivial, ?_⟩
      simp only [facts_opp, eFaL, q_addL, q_onD]
      refine ⟨by rw [sz_eq]; simp; omega, ?_⟩
      simpa [eFaL] using q
    · simp only [q_addL, q_onD, q_noL, true_and]
      refine ⟨by rw [sz_eq]; simp; omega, ?_⟩
      rw [lp_nx]
      have e : (acc.map eFaL ++ l.map fun k => eFaL (f ++ [opp (lkFa "o" k)])) = (acc ++ l.map fun k => f ++ [opp (lkFa "o" k)]).map eFaL := by simp [List.map_map, Function.comp_def]
      rw [e]
      refine uns_in l hl W _ _ _ _ _ (fun f h => hf f (by simp [h])) (by rw [List.length_append, List.length_map]; omega) fun s4 s5 => ?_
      have := h s4 s5
      have e2 : bothL (f :: W) (l.map fun k => [opp (lkFa "o" k)]) = (l.map fun k => f ++ [opp (lkFa "o" k)]) ++ bothL W (l.map fun k => [opp (lkFa "o" k)]) := by simp [bothL, List.map_map, Function.comp_def]
      rw [e2, ← List.append_assoc] at this
      exact this
abbrev b_uns2 : SW := (wSeq (wSet 3 (wLst []))
      (wSeq (wFor (wSeqI (wVar 1)) (.nm 4) b_uns)
      (wSet 1 (wVar 3))))
theorem uns_one (l : Lot) (hl : l.length ≤ 4) (W : List (List Fa)) (s0 s3 s4 s5 : Option DV) (hf : ∀ f ∈ W, f.length ≤ 10) (hb : W.length ≤ 1000)
    (h : ∀ s3 s4 s5, D.nx [s0, some (.d (.list ((bothL W (l.map fun k => [opp (lkFa "o" k)])).map eFaL))), some (.d (eLot l)), s3, s4, s5]) :
    b_uns2 D [s0, some (.d (.list (W.map eFaL))), some (.d (eLot l)), s3, s4, s5] := by
  simp only [q_seq, q_set, q_lst, q_args0, q_allD0, q_noL, true_and, sq_nx]
  show wFor _ _ _ _ [s0, some (.d (.list (W.map eFaL))), some (.d (eLot l)), some (.d (.list [])), s4, s5]
  simp only [q_for, q_seqI, q_var, q_slot1, q_onD, q_seqL]
  refine uns_in l hl W [] _ _ _ _ hf (by simp; exact Nat.le_trans (Nat.mul_le_mul hb hl) (by decide)) fun s4 s5 => ?_
  simp only [sq_nx, q_set, q_var, q_slot3, q_noL, true_and, List.nil_append]
  exact h _ _ _
end
theorem fin__law_unseen (xs : List DV) (R : DV → Prop) (h : sp__law_unseen xs R) : w__law_unseen { nx := fun _ => R (.d .none), rt := R } (startE 6 xs) := by
  obtain ⟨w, rfl, hw, hR⟩ := h
  simp only at hw hR
  rw [← unseenO_eq] at hR
  have last : ∀ (W : List (List Fa)) (s0 s2 s3 s4 s5 : Option DV), W.length ≤ 1000 → (∀ f ∈ W, f.length ≤ 10) → R (.d (.bool (W.any canB))) →
      (wRet (wOp gtF (wBlt (one lenF) [(wLc (wSeqE (wVar 1)) (.nm 4) (wTru (wCall sp__law_can [(wVar 4)])) (wVar 4) [4])]) (wC (.int 0)))) { nx := fun _ => R (.d .none), rt := R } [s0, some (.d (.list (W.map eFaL))), s2, s3, s4, s5] := by
    intro W s0 s2 s3 s4 s5 hW hf hR
    simp
    refine lcW_filter eFaL canB W (fun f hf' Q q => ?_) (by simp; omega) ?_
    · simp
      refine ⟨f, rfl, by have := hf f hf'; omega, trivial, ?_⟩
      show match canB f with
        | true => _
        | false => _
      cases z : canB f with
      | true => simpa [z] using q
      | false => simpa [z] using q
    · have e : decide (0 < ((W.filter canB).map eFaL).length) = W.any canB := by
        rw [List.length_map]
        cases z : W.any canB with
        | true =>
          have : ¬ (W.filter canB).length = 0 := fun q => by
            rw [List.length_eq_zero_iff, List.filter_eq_nil_iff] at q
            obtain ⟨f, hf, hc⟩ := List.any_eq_true.mp z
            exact q f hf hc
          exact decide_eq_true (by omega)
        | false =>
          have : (W.filter canB).length = 0 := by
            rw [List.length_eq_zero_iff, List.filter_eq_nil_iff]
            exact List.any_eq_false.mp z
          exact decide_eq_false (by omega)
      rw [e]
      exact hR
  obtain ⟨t, ls, s⟩ := w
  have g1 := hw.one
  have g2 := hw.two
  have g3 := hw.lot
  have e0 : PyData.list [PyData.list []] = .list (([[]] : List (List Fa)).map eFaL) := rfl
  simp only [w__law_unseen, startE, q_seq, q_set, q_lst, q_args1, q_args0, q_allD1, q_allD0, q_noL, true_and, sq_nx]
  show wFor _ _ _ _ [some (.d (.tuple (ls.map eLot))), some (.d (.list (([[]] : List (List Fa)).map eFaL))), none, none, none, none]
  simp only [q_for, q_seqI, q_var, q_slot0, q_onD, q_seqT]
  match ls, g1, g2, g3, hR with
  | [l], _, _, g3, hR =>
    have k1 := g3 l (by simp)
    show loopW _ _ _ [eLot l] _
    rw [q_loop1, q_bindN]
    refine uns_one l k1 [[]] _ _ _ _ (by simp) (by simp) fun s3 s4 s5 => ?_
    rw [lp_nx, q_loop0, sq_nx]
    refine last _ _ _ _ _ _ (by rw [bothL_len]; simp; omega) (fun f hf => by have := bothL_in (n := 0) (m := 1) (by simp) (by simp) f hf; omega) ?_
    simpa [unseenO, prodL] using hR
  | [l, m], _, _, g3, hR =>
    have k1 := g3 l (by simp)
    have k2 := g3 m (by simp)
    show loopW _ _ _ [eLot l, eLot m] _
    rw [q_loop1, q_bindN]
    refine uns_one l k1 [[]] _ _ _ _ (by simp) (by simp) fun s3 s4 s5 => ?_
    rw [lp_nx, q_loop1, q_bindN]
    refine uns_one m k2 _ _ _ _ _ (fun f hf => by have := bothL_in (n := 0) (m := 1) (by simp) (by simp) f hf; omega) (by rw [bothL_len]; simp; omega) fun s3 s4 s5 => ?_
    rw [lp_nx, q_loop0, sq_nx]
    refine last _ _ _ _ _ _ ?_ (fun f hf => by have := bothL_in (n := 1) (m := 1) (fun f hf => by have := bothL_in (n := 0) (m := 1) (by simp) (by simp) f hf; omega) (by simp) f hf; omega) ?_
    · rw [bothL_len, bothL_len]
      simp
      exact Nat.le_trans (Nat.mul_le_mul k1 k2) (by decide)
    · simpa [unseenO, prodL] using hR
/-! ### the law's own sights -/
abbrev sp__law_value : SpD := spV (α := Tm × List Int × List Int) (fun a => [.d (eTm a.1), .d (eRw a.2.1), .d (eRw a.2.2)]) (fun a => a.1.fit a.2.1.length a.2.2.length) (fun a => .int (tmVal a.1 a.2.1 a.2.2))
/-! _law_value(term, row, badge): slots 0 term, 1 row, 2 badge; calls  -/
def w__law_value : SW :=
    (wSeq (wIf (wOpT eqF (wIx (wVar 0) (wC (.int 0))) (wC (.str "c"))) (wRet (wIx (wVar 0) (wC (.int 1)))) wNil)
    (wRet (wIx (wIx (wTup [(wVar 1), (wVar 2)]) (wBlt (one intF) [(wOp eqF (wIx (wVar 0) (wC (.int 0))) (wC (.str "b")))])) (wIx (wVar 0) (wC (.int 1))))))
theorem fin__law_value (xs : List DV) (R : DV → Prop) (h : sp__law_value xs R) : w__law_value { nx := fun _ => R (.d .none), rt := R } (startE 3 xs) := by
  obtain ⟨⟨t, row, badge⟩, rfl, hp, hR⟩ := h
  simp only at hp hR
  cases t with
  | f n => simpa [w__law_value, startE, eTm, eRw, tmVal, row_at (show n < row.length from hp), show (("f" : Str) == "c") = false by decide, show (("f" : Str) == "b") = false by decide] using hR
  | b n => simpa [w__law_value, startE, eTm, eRw, tmVal, row_at (show n < badge.length from hp), show (("b" : Str) == "c") = false by decide] using hR
  | c z => simpa [w__law_value, startE, eTm, eRw, tmVal] using hR
abbrev sp__law_sees : SpD := spV (α := List Lot × List Int × List Int) (fun a => [.d (.tuple (a.1.map eLot)), .d (eRw a.2.1), .d (eRw a.2.2)]) (fun a => ∀ l ∈ a.1, l.length ≤ 1000 ∧ ∀ k ∈ l, k.fld < a.2.1.length ∧ k.tm.fit a.2.1.length a.2.2.length) (fun a => .bool (a.1.any fun l => lotB l a.2.1 a.2.2))
/-! _law_sees(lots, row, badge): slots 0 lots, 1 row, 2 badge, 3 lot, 4 look; calls _law_value -/
def w__law_sees : SW :=
    (wSeq (wFor (wSeqI (wVar 0)) (.nm 3)
      (wIf (wOpT eqF (wBlt (one lenF) [(wLc (wSeqE (wVar 3)) (.nm 4) (wOpT neF (wOp eqF (wIx (wVar 1) (wIx (wVar 4) (wC (.int 1)))) (wCall sp__law_value [(wIx (wVar 4) (wC (.int 2))), (wVar 1), (wVar 2)])) (wOp eqF (wIx (wVar 4) (wC (.int 0))) (wC (.str "=")))) (wVar 4) [4])]) (wC (.int 0))) (wRet (wC (.bool true))) wNil))
    (wRet (wC (.bool false))))
theorem lotB_filter (l : Lot) (row badge : List Int) : (l.filter fun k => !lkB row badge k).length = 0 ↔ (!lotB l row badge) = false := by
  rw [List.length_eq_zero_iff, List.filter_eq_nil_iff]
  unfold lotB
  rw [Bool.not_eq_false', List.all_eq_true]
  constructor
  · intro h k hk
    have := h k hk
    simpa using this
  · intro h k hk
    simpa using h k hk
theorem fin__law_sees (xs : List DV) (R : DV → Prop) (h : sp__law_sees xs R) : w__law_sees { nx := fun _ => R (.d .none), rt := R } (startE 5 xs) := by
  obtain ⟨⟨ls, row, badge⟩, rfl, hp, hR⟩ := h
  simp only at hp hR
  have main : ∀ (D : DEnds) (ls : List Lot) (s0 s3 s4 : Option DV), (∀ l ∈ ls, l.length ≤ 1000 ∧ ∀ k ∈ l, k.fld < row.length ∧ k.tm.fit row.length badge.length) → (if (ls.any fun l => lotB l row badge) = true then D.rt (.d (.bool true)) else ∀ s3 s4, D.nx [s0, some (.d (eRw row)), some (.d (eRw badge)), s3, s4]) →
      loopW (.nm 3) (wIf (wOpT eqF (wBlt (one lenF) [(wLc (wSeqE (wVar 3)) (.nm 4) (wOpT neF (wOp eqF (wIx (wVar 1) (wIx (wVar 4) (wC (.int 1)))) (wCall sp__law_value [(wIx (wVar 4) (wC (.int 2))), (wVar 1), (wVar 2)])) (wOp eqF (wIx (wVar 4) (wC (.int 0))) (wC (.str "=")))) (wVar 4) [4])]) (wC (.int 0))) (wRet (wC (.bool true))) wNil) D (ls.map eLot) [s0, some (.d (eRw row)), some (.d (eRw badge)), s3, s4] := by
    intro D ls
    induction ls with
    | nil => intro s0 s3 s4 _ h; exact h _ _
    | cons l ls ih =>
      intro s0 s3 s4 hp h
      have g := hp l (by simp)
      rw [List.any_cons] at h
      rw [List.map_cons, q_loop1, q_bindN]
      show wIf _ _ _ _ [s0, some (.d (eRw row)), some (.d (eRw badge)), some (.d (eLot l)), s4]
      simp only [q_if, q_opT, q_blt, q_args1, q_args0, q_lc, q_seqE, q_var, q_slot3, q_asLd, eLot, q_seqT]
      refine lcW_filter eLk (fun k => !lkB row badge k) l (fun k hk Q q => ?_) (by rw [sz_eq]; omega) ?_
      · have gk := g.2 k hk
        simp [eLk, eRw, row_at gk.1]
        refine ⟨(k.tm, row, badge), rfl, gk.2, trivial, ?_⟩
        simp [eSg_eq]
        have e : ((cell row k.fld == tmVal k.tm row badge) == k.eq) = lkB row badge k := rfl
        rw [e]
        cases z : lkB row badge k with
        | true => simpa [z] using q
        | false => simpa [z, eLk] using q
      · simp only [q_one, q_asLd, q_lenL, q_onD, q_C, q_eq, v_int, q_asB, List.length_map]
        rw [int_len0 (lotB_filter l row badge)]
        refine ⟨by simp, ?_⟩
        cases z : lotB l row badge with
        | true =>
          rw [z, Bool.true_or, if_pos rfl] at h
          exact h
        | false =>
          rw [z, Bool.false_or] at h
          exact ih _ _ _ (fun l h => hp l (by simp [h])) h
  simp only [w__law_sees, startE, q_seq]
  show wFor _ _ _ _ [some (.d (.tuple (ls.map eLot))), some (.d (eRw row)), some (.d (eRw badge)), none, none]
  simp only [q_for, q_seqI, q_var, q_slot0, q_onD, q_seqT]
  refine main _ ls _ _ _ hp ?_
  cases z : ls.any (fun l => lotB l row badge) with
  | true => rw [z] at hR; rw [if_pos rfl]; exact hR
  | false => rw [z] at hR; rw [if_neg (by decide)]; intro s3 s4; exact hR
end K85

set_option maxRecDepth 100000
set_option maxHeartbeats 1000000
namespace K85
open PySem L2 DL
/-! ### _law_same -/
mutual
def tupD : PyData → Bool
  | .none | .bool _ | .int _ | .str _ => true
  | .tuple xs => decide (xs.length ≤ 100000) && tupAll xs
  | .list _ | .dict _ => false
def tupAll : List PyData → Bool
  | [] => true
  | x :: xs => tupD x && tupAll xs
end
theorem tupAll_iff : ∀ {xs : List PyData}, tupAll xs = true ↔ ∀ x ∈ xs, tupD x = true
  | [] => by simp [tupAll]
  | x :: xs => by
    have := tupAll_iff (xs := xs)
    simp [tupAll, this]
theorem depth_mem {x : PyData} : ∀ {xs : List PyData}, x ∈ xs → x.depth ≤ PyData.depthAll xs
  | y :: ys, h => by
    simp only [PyData.depthAll]
    rcases List.mem_cons.mp h with rfl | h
    · exact Nat.le_max_left _ _
    · exact Nat.le_trans (depth_mem h) (Nat.le_max_right _ _)
abbrev same_n (n : Nat) : SpD := fun xs Q => ∃ d, xs = [.d d, .d d] ∧ tupD d = true ∧ d.depth ≤ n ∧ Q (.d (.bool true))
abbrev sp__law_same : SpD := same_n 12
/-! _law_same(told, due): slots 0 told, 1 due, 2 at; calls _law_same -/
def w__law_same (sp__law_same : SpD) : SW :=
    (wSeq (wIf (wVT (wIsN false (wVar 1))) (wRet (wIsN false (wVar 0))) wNil)
    (wSeq (wIf (wTru (wIsi "tuple" (wVar 1))) (wSeq (wIf (wOrT (wNotT (wTru (wIsi "tuple" (wVar 0)))) (wOpT neF (wBlt (one lenF) [(wVar 0)]) (wBlt (one lenF) [(wVar 1)]))) (wRet (wC (.bool false))) wNil)
      (wSeq (wFor (wRng1 (wBlt (one lenF) [(wVar 1)])) (.nm 2)
        (wIf (wNotT (wTru (wCall sp__law_same [(wIx (wVar 0) (wVar 2)), (wIx (wVar 1) (wVar 2))]))) (wRet (wC (.bool false))) wNil))
      (wRet (wC (.bool true))))) wNil)
    (wSeq (wIf (wTru (wIsi "str" (wVar 1))) (wRet (wAnd (wIsi "str" (wVar 0)) (wOp eqF (wVar 0) (wVar 1)))) wNil)
    (wRet (wAnd (wIsi "int" (wVar 0)) (wAnd (wOp eqF (wIsi "bool" (wVar 0)) (wIsi "bool" (wVar 1))) (wOp eqF (wVar 0) (wVar 1))))))))
theorem kt1 : kitB "bool" "tuple" = some false := by decide +kernel
theorem kt2 : kitB "int" "tuple" = some false := by decide +kernel
theorem kt3 : kitB "str" "tuple" = some false := by decide +kernel
theorem kt4 : kitB "tuple" "tuple" = some true := by decide +kernel
theorem kt5 : kitB "bool" "str" = some false := by decide +kernel
theorem kt6 : kitB "int" "str" = some false := by decide +kernel
theorem kt7 : kitB "str" "str" = some true := by decide +kernel
theorem kt8 : kitB "bool" "int" = some true := by decide +kernel
theorem kt9 : kitB "int" "int" = some true := by decide +kernel
theorem kt10 : kitB "bool" "bool" = some true := by decide +kernel
theorem kt11 : kitB "int" "bool" = some false := by decide +kernel
theorem fin__law_same (n : Nat) (sp : SpD) (hs : ∀ m, n = m + 1 → sp = same_n m) (xs : List DV) (R : DV → Prop) (h : same_n n xs R) : w__law_same sp { nx := fun _ => R (.d .none), rt := R } (startE 3 xs) := by
  obtain ⟨d, rfl, ht, hd, hR⟩ := h
  cases d with
  | none => simpa [w__law_same, startE] using hR
  | bool b => simpa [w__law_same, startE, tyD, kt1, kt5, kt8, kt10, isNone] using hR
  | int i => simpa [w__law_same, startE, tyD, kt2, kt6, kt9, kt11, isNone] using hR
  | str z => simpa [w__law_same, startE, tyD, kt3, kt7, isNone] using hR
  | list _ => simp [tupD] at ht
  | dict _ => simp [tupD] at ht
  | tuple ds =>
    simp only [tupD, Bool.and_eq_true, decide_eq_true_eq] at ht
    obtain ⟨h1, h2⟩ := ht
    simp only [PyData.depth] at hd
    obtain ⟨m, rfl⟩ : ∃ m, n = m + 1 := ⟨n - 1, by omega⟩
    have hs := hs m rfl
    subst hs
    have all := tupAll_iff.mp h2
    have main : ∀ (D : DEnds) (k i : Nat) (s2 : Option DV), i + k = ds.length → (∀ s2, D.nx [some (.d (.tuple ds)), some (.d (.tuple ds)), s2]) →
        loopW (.nm 2) (wIf (wNotT (wTru (wCall (same_n m) [(wIx (wVar 0) (wVar 2)), (wIx (wVar 1) (wVar 2))]))) (wRet (wC (.bool false))) wNil) D ((List.range' i k).map fun (j : Nat) => .int (j : Int)) [some (.d (.tuple ds)), some (.d (.tuple ds)), s2] := by
      intro D k
      induction k with
      | zero => intro i s2 _ h; exact h s2
      | succ k ih =>
        intro i s2 hi h
        rw [List.range'_succ, List.map_cons, q_loop1, q_bindN]
        show wIf _ _ _ _ [some (.d (.tuple ds)), some (.d (.tuple ds)), some (.d (.int (i : Int)))]
        have hlt : i < ds.length := by omega
        have e : atI ds (i : Int) = some ds[i] := by rw [DL.atI_nat hlt, List.getElem?_eq_getElem hlt]
        have hm : ds[i] ∈ ds := List.getElem_mem hlt
        simp only [q_if, q_notT, q_tru, q_call, q_args1, q_args0, q_ix, q_var, q_slot0, q_slot1, q_slot2, q_onD, q_asLd, q_ixT, e, q_noLs1, q_noLs0, q_noL, true_and, and_true]
        refine ⟨ds[i], rfl, all _ hm, by have := depth_mem hm; omega, trivial, ?_⟩
        exact ih (i + 1) _ (by omega) h
    simp only [w__law_same, startE, q_seq, q_if, q_VT, q_isN]
    simp [tyD, kt4]
    have e : rngD 0 ds.length = (List.range' 0 ds.length).map fun (j : Nat) => .int (j : Int) := by
      simp [rngD, List.range_eq_range']
    refine ⟨by omega, ?_⟩
    rw [e]
    exact main _ ds.length 0 _ (by omega) fun s2 => hR
end K85

set_option maxRecDepth 100000
set_option maxHeartbeats 1000000
namespace K85
open PySem L2 DL
/-! ### _law_sight -/
def Rol.nd (r : Rol) : Prop := (r.wins.map (·.tbl)).Nodup
abbrev sp__law_sight : SpD := spV (α := App × Per × List (List (List Int)) × Rol) (fun a => [.d (eApp a.1), .d (ePer a.2.1), .d (eSt a.2.2.1)]) (fun a => Sees a.1 a.2.1 a.2.2.2 a.2.2.1 ∧ a.2.2.2.nd ∧ a.1.rols.length ≤ 100 ∧ a.2.2.2.wins.length ≤ 100) (fun a => sightA a.1 a.2.2.2 a.2.1.badge a.2.2.1)
/-! _law_sight(app, person, store): slots 0 app, 1 person, 2 store, 3 windows, 4 sight, 5 at, 6 table, 7 told, 8 name, 9 lots, 10 shown, 11 role, 12 seen, 13 row, 14 field; calls _law_sees -/
def w__law_sight : SW :=
    (wSeq (wSet 3 (wIx (wLc (wSeqE (wIx (wVar 0) (wC (.int 1)))) (.nm 11) (wOpT eqF (wIx (wVar 11) (wC (.int 0))) (wIx (wVar 1) (wC (.int 0)))) (wIx (wVar 11) (wC (.int 2))) [11]) (wC (.int 0))))
    (wSeq (wOwn 4 [])
    (wSeq (wFor (wEnum (wIx (wVar 0) (wC (.int 0)))) (.tp [5, 6])
      (wSeq (wSet 7 (wC .none))
      (wSeq (wFor (wSeqI (wVar 3)) (.tp [8, 9, 10])
        (wIf (wOpT eqF (wVar 8) (wIx (wVar 6) (wC (.int 0)))) (wSeq (wSetLc 12 (wLc (wSeqE (wIx (wVar 2) (wVar 5))) (.nm 13) (wTru (wCall sp__law_sees [(wVar 9), (wVar 13), (wIx (wVar 1) (wC (.int 1)))])) (wVar 13) [13]))
          (wSet 7 (wBlt (one tupF) [(wBlt (one sortedF) [(wLc (wSeqE (wVar 12)) (.nm 13) wYes (wBlt (one tupF) [(wLc (wSeqE (wVar 10)) (.nm 14) wYes (wIx (wVar 13) (wVar 14)) [14])]) [13])])]))) wNil))
      (wApp 4 (wVar 7)))))
    (wFrz 4 (wRet (wBlt (one tupF) [(wVar 4)]))))))
theorem win_find {ws : List Win} (nd : (ws.map (·.tbl)).Nodup) {w : Win} {n : Str} (h : w ∈ ws) (e : w.tbl = n) : (ws.find? fun t => t.tbl == n) = some w := by
  induction ws with
  | nil => cases h
  | cons v ws ih =>
    rw [List.map_cons, List.nodup_cons] at nd
    rcases List.mem_cons.mp h with rfl | h
    · subst e; simp
    · have ne : (v.tbl == n) = false := by
        apply beq_eq_false_iff_ne.mpr
        intro q
        exact nd.1 (List.mem_map.mpr ⟨w, h, e.trans q.symm⟩)
      rw [List.find?_cons, ne]
      exact ih nd.2 h
theorem shows_law (w : Win) (badge : List Int) : ∀ rs : List (List Int), (rs.filter fun r => w.lots.any fun l => lotB l r badge).map (fun r => w.shown.map (cell r)) = showsOf (some w) badge rs
  | [] => rfl
  | r :: rs => by
    have ih := shows_law w badge rs
    unfold showsOf at ih ⊢
    rw [List.filter_cons, List.filterMap_cons]
    cases z : w.lots.any fun l => lotB l r badge with
    | true =>
      have e : showB (some w) r badge = some (w.shown.map (cell r)) := by simp only [showB, z, if_true]
      rw [if_pos rfl, List.map_cons, ih, e]
    | false =>
      have e : showB (some w) r badge = none := by simp only [showB, z]; rfl
      rw [if_neg (by decide), ih, e]
section
variable {D : DEnds}
abbrev b_sg : SW := (wIf (wOpT eqF (wVar 8) (wIx (wVar 6) (wC (.int 0)))) (wSeq (wSetLc 12 (wLc (wSeqE (wIx (wVar 2) (wVar 5))) (.nm 13) (wTru (wCall sp__law_sees [(wVar 9), (wVar 13), (wIx (wVar 1) (wC (.int 1)))])) (wVar 13) [13]))
          (wSet 7 (wBlt (one tupF) [(wBlt (one sortedF) [(wLc (wSeqE (wVar 12)) (.nm 13) wYes (wBlt (one tupF) [(wLc (wSeqE (wVar 10)) (.nm 14) wYes (wIx (wVar 13) (wVar 14)) [14])]) [13])])]))) wNil)
theorem sg_in (p : Per) (st : List (List (List Int))) (t : Tbl) (rows : List (List Int)) (i : Nat) (hi : st[i]? = some rows) (hl : rows.length ≤ 1000) (hr : ∀ r ∈ rows, r.length = t.flds.length) :
    ∀ (ws : List Win) (o : Option Win) (s0 s3 s4 s8 s9 s10 s11 s12 : Option DV), (ws.map (·.tbl)).Nodup → (∀ w ∈ ws, w.tbl = t.name → w.ok ∧ w.fit t.flds.length p.badge.length) → 
    (∀ s8 s9 s10 s12, D.nx [s0, some (.d (ePer p)), some (.d (eSt st)), s3, s4, some (.d (.int i)), some (.d (eTbl t)), some (.d (tableB ((ws.find? fun w => w.tbl == t.name).or o) p.badge rows)), s8, s9, s10, s11, s12, none, none]) →
    loopW (.tp [8, 9, 10]) b_sg D (ws.map eWin) [s0, some (.d (ePer p)), some (.d (eSt st)), s3, s4, some (.d (.int i)), some (.d (eTbl t)), some (.d (tableB o p.badge rows)), s8, s9, s10, s11, s12, none, none]
  | [], o, s0, s3, s4, s8, s9, s10, s11, s12, _, _, h => by simpa using h s8 s9 s10 s12
  | w :: ws, o, s0, s3, s4, s8, s9, s10, s11, s12, nd, hw, h => by
    rw [List.map_cons, List.nodup_cons] at nd
    rw [List.map_cons, q_loop1, eWin, q_bindT, q_bindE1, q_bindE1, q_bindE1, q_bindE0]
    show b_sg _ [s0, some (.d (ePer p)), some (.d (eSt st)), s3, s4, some (.d (.int i)), some (.d (eTbl t)), some (.d (tableB o p.badge rows)), some (.d (.str w.tbl)), some (.d (.tuple (w.lots.map eLot))), some (.d (.tuple (w.shown.map eInt))), s11, s12, none, none]
    simp only [q_if, q_opT, q_var, q_slot8, q_onD, q_ix, q_slot6, q_C, q_asLd, eTbl, q_ixT, q_at0, q_eq, v_str, q_asB]
    refine ⟨by simp, ?_⟩
    have hilt := (List.getElem?_eq_some_iff.mp hi).1
    have e1 : atI (st.map eRws) (i : Int) = some (eRws rows) := by
      rw [DL.atI_nat (by simpa using hilt)]
      simp [hi]
    cases q : (w.tbl == t.name) with
    | false =>
      rw [List.find?_cons, q] at h
      exact sg_in p st t rows i hi hl hr ws o _ _ _ _ _ _ _ _ nd.2 (fun w h => hw w (by simp [h])) h
    | true =>
      have qe : w.tbl = t.name := eq_of_beq q
      obtain ⟨g1, g2⟩ := hw w (by simp) qe
      rw [List.find?_cons, q] at h
      have hno : (ws.find? fun w => w.tbl == t.name) = none := by
        rw [List.find?_eq_none]
        intro v hv e
        exact nd.1 (List.mem_map.mpr ⟨v, hv, (eq_of_beq (by simpa using e)).trans qe.symm⟩)
      simp only [q_seq, q_setLc, q_set, q_lc, q_seqE, q_ix, q_var, q_slot2, q_slot5, q_onD, q_asLd, eSt, q_ixT, e1, eRws, q_seqT]
      refine lcW_filter eRw (fun r => w.lots.any fun l => lotB l r p.badge) rows (fun r hr' Q hq => ?_) (by rw [sz_eq]; omega) ?_
      · rw [q_bindN]
        have gr := hr r hr'
        show wTru _ [s0, some (.d (ePer p)), some (.d (eSt st)), s3, s4, some (.d (.int i)), some (.d (eTbl t)), some (.d (tableB o p.badge rows)), some (.d (.str w.tbl)), some (.d (.tuple (w.lots.map eLot))), some (.d (.tuple (w.shown.map eInt))), s11, s12, some (.d (eRw r)), none] _
        simp only [q_tru, q_call, q_args1, q_args0, q_var, q_slot9, q_slot13, q_ix, q_slot1, q_C, q_onD, q_asLd, ePer, q_ixT, q_at1, q_noLs1, q_noLs0, q_noL, true_and, and_true]
        refine ⟨(w.lots, r, p.badge), rfl, fun l hl => ⟨by have := g1.lot l hl; omega, by show ∀ k ∈ l, k.fld < r.length ∧ k.tm.fit r.length p.badge.length; rw [gr]; exact g2.lk l hl⟩, trivial, ?_⟩
        show match w.lots.any (fun l => lotB l r p.badge) with
          | true => _
          | false => _
        cases z : w.lots.any (fun l => lotB l r p.badge) with
        | true => simpa [z] using hq
        | false => simpa [z] using hq
      · refine ⟨trivial, ?_⟩
        rw [sq_nx]
        show wSet _ _ _ [s0, some (.d (ePer p)), some (.d (eSt st)), s3, s4, some (.d (.int i)), some (.d (eTbl t)), some (.d (tableB o p.badge rows)), some (.d (.str w.tbl)), some (.d (.tuple (w.lots.map eLot))), some (.d (.tuple (w.shown.map eInt))), s11, some (.d (.list ((rows.filter fun r => w.lots.any fun l => lotB l r p.badge).map eRw))), none, none]
        simp only [q_set, q_blt, q_args1, q_args0, q_lc, q_seqE, q_var, q_slot12, q_asLd, q_seqL]
        refine lcW_map eRw (fun r => eRw (w.shown.map (cell r))) _ (fun r hr' Q hq => ?_) (by have := List.length_filter_le (fun r => w.lots.any fun l => lotB l r p.badge) rows; rw [sz_eq]; omega) ?_
        · rw [q_bindN]
          have gr := hr r (List.mem_filter.mp hr').1
          show wBlt _ _ [s0, some (.d (ePer p)), some (.d (eSt st)), s3, s4, some (.d (.int i)), some (.d (eTbl t)), some (.d (tableB o p.badge rows)), some (.d (.str w.tbl)), some (.d (.tuple (w.lots.map eLot))), some (.d (.tuple (w.shown.map eInt))), s11, some (.d (.list ((rows.filter fun r => w.lots.any fun l => lotB l r p.badge).map eRw))), some (.d (eRw r)), none] _
          simp only [q_blt, q_args1, q_args0, q_lc, q_seqE, q_var, q_slot10, q_asLd, q_seqT]
          refine lcW_map eInt (fun n => .int (cell r n)) _ (fun n hn Q hq => ?_) (by have := g1.shown; rw [sz_eq]; omega) ?_
          · rw [q_bindN]
            have gn := g2.sh n hn
            show wIx _ _ [s0, some (.d (ePer p)), some (.d (eSt st)), s3, s4, some (.d (.int i)), some (.d (eTbl t)), some (.d (tableB o p.badge rows)), some (.d (.str w.tbl)), some (.d (.tuple (w.lots.map eLot))), some (.d (.tuple (w.shown.map eInt))), s11, some (.d (.list ((rows.filter fun r => w.lots.any fun l => lotB l r p.badge).map eRw))), some (.d (eRw r)), some (.d (eInt n))] _
            simp only [q_ix, q_var, q_slot13, q_slot14, q_onD, q_asLd, eRw, eInt, q_ixT, row_at (show n < r.length by rw [gr]; exact gn)]
            exact hq
          · simpa [eRw, List.map_map, Function.comp_def] using hq
        · have e2 : (rows.filter fun r => w.lots.any fun l => lotB l r p.badge).map (fun r => eRw (w.shown.map (cell r))) = (showsOf (some w) p.badge rows).map eRw := by
            rw [← shows_law, List.map_map]; rfl
          rw [e2]
          refine ⟨sorts_rows _ _ shows_len, ?_⟩
          refine ⟨trivial, ?_⟩
          refine sg_in p st t rows i hi hl hr ws (some w) _ _ _ _ _ _ _ _ nd.2 (fun w h => hw w (by simp [h])) ?_
          rw [hno]
          exact h
end
theorem fin__law_sight (xs : List DV) (R : DV → Prop) (h : sp__law_sight xs R) : w__law_sight { nx := fun _ => R (.d .none), rt := R } (startE 15 xs) := by
  obtain ⟨⟨A, p, st, rl⟩, rfl, ⟨S, nd, hrl, hws⟩, hR⟩ := h
  simp only at S nd hrl hws hR
  have main : ∀ (D : DEnds) (k i : Nat) (s5 s6 s7 s8 s9 s10 s11 s12 : Option DV), i + k = A.tabs.length → (∀ s5 s6 s7 s8 s9 s10 s12, D.nx [some (.d (eApp A)), some (.d (ePer p)), some (.d (eSt st)), some (.d (.tuple (rl.wins.map eWin))), some (.l ((A.tabs.zip st).map fun a => tableB (rl.win a.1.name) p.badge a.2)), s5, s6, s7, s8, s9, s10, s11, s12, none, none]) →
      loopW (.tp [5, 6]) (wSeq (wSet 7 (wC .none)) (wSeq (wFor (wSeqI (wVar 3)) (.tp [8, 9, 10]) b_sg) (wApp 4 (wVar 7)))) D (enumD ((A.tabs.drop i).map eTbl) i)
        [some (.d (eApp A)), some (.d (ePer p)), some (.d (eSt st)), some (.d (.tuple (rl.wins.map eWin))), some (.l (((A.tabs.zip st).take i).map fun a => tableB (rl.win a.1.name) p.badge a.2)), s5, s6, s7, s8, s9, s10, s11, s12, none, none] := by
    intro D k
    induction k with
    | zero =>
      intro i s5 s6 s7 s8 s9 s10 s11 s12 hi h
      have e : A.tabs.drop i = [] := List.drop_eq_nil_of_le (by omega)
      have e2 : (A.tabs.zip st).take i = A.tabs.zip st := List.take_of_length_le (by rw [List.length_zip, S.len]; omega)
      rw [e, e2]
      simpa [enumD] using h s5 s6 s7 s8 s9 s10 s12
    | succ k ih =>
      intro i s5 s6 s7 s8 s9 s10 s11 s12 hi h
      have hlt : i < A.tabs.length := by omega
      have hlt2 : i < st.length := by rw [S.len]; exact hlt
      rw [List.drop_eq_getElem_cons hlt, List.map_cons]
      have e0 : enumD (eTbl A.tabs[i] :: (A.tabs.drop (i + 1)).map eTbl) i = .tuple [.int (i : Int), eTbl A.tabs[i]] :: enumD ((A.tabs.drop (i + 1)).map eTbl) (i + 1) := by rw [enumD]
      rw [e0, q_loop1, q_bindT, q_bindE1, q_bindE1, q_bindE0]
      show wSeq _ _ _ [some (.d (eApp A)), some (.d (ePer p)), some (.d (eSt st)), some (.d (.tuple (rl.wins.map eWin))), some (.l (((A.tabs.zip st).take i).map fun a => tableB (rl.win a.1.name) p.badge a.2)), some (.d (.int (i : Int))), some (.d (eTbl A.tabs[i])), s7, s8, s9, s10, s11, s12, none, none]
      have ht : A.tabs[i]? = some A.tabs[i] := List.getElem?_eq_getElem hlt
      have hs : st[i]? = some st[i] := List.getElem?_eq_getElem hlt2
      have gr := S.rows i _ _ ht hs
      simp only [q_seq, q_set, q_C, sq_nx]
      refine ⟨trivial, ?_⟩
      show wFor _ _ _ _ [some (.d (eApp A)), some (.d (ePer p)), some (.d (eSt st)), some (.d (.tuple (rl.wins.map eWin))), some (.l (((A.tabs.zip st).take i).map fun a => tableB (rl.win a.1.name) p.badge a.2)), some (.d (.int (i : Int))), some (.d (eTbl A.tabs[i])), some (.d (tableB none p.badge st[i])), s8, s9, s10, s11, s12, none, none]
      simp only [q_for, q_seqI, q_var, q_slot3, q_onD, q_seqT]
      refine sg_in p st A.tabs[i] st[i] i hs gr.1 gr.2 rl.wins none _ _ _ _ _ _ _ _ nd (fun w hw e => S.win A.tabs[i] (List.getElem_mem hlt) w (win_find nd hw e)) fun s8 s9 s10 s12 => ?_
      simp only [sq_nx, q_app, q_slot4, q_var, q_slot7, q_onD, Option.or_none]
      refine ⟨by rw [sz_eq]; simp; have := S.tabs; omega, ?_⟩
      have hz : i < (A.tabs.zip st).length := by rw [List.length_zip, S.len]; omega
      have e3 : (A.tabs.zip st).take (i + 1) = (A.tabs.zip st).take i ++ [(A.tabs[i], st[i])] := by
        rw [List.take_succ_eq_append_getElem hz, List.getElem_zip]
      have r := ih (i + 1) (some (.d (.int (i : Int)))) (some (.d (eTbl A.tabs[i]))) (some (.d (tableB (rl.win A.tabs[i].name) p.badge st[i]))) s8 s9 s10 s11 s12 (by omega) h
      rw [e3, List.map_append] at r
      exact r
  simp only [w__law_sight, startE, q_seq]
  show wSet _ _ _ [some (.d (eApp A)), some (.d (ePer p)), some (.d (eSt st)), none, none, none, none, none, none, none, none, none, none, none, none]
  simp only [q_set, q_ix, q_lc, q_seqE, q_var, q_slot0, q_C, q_onD, q_asLd, eApp, q_ixT, q_at1, q_seqT]
  refine lcW_fm eRol (fun r => if r.name == p.role then some (.tuple (r.wins.map eWin)) else none) A.rols [] (fun r hr Q q => ?_) (by rw [sz_eq]; simp; omega) ?_
  · rw [q_bindN]
    show wOpT _ _ _ [some (.d (eApp A)), some (.d (ePer p)), some (.d (eSt st)), none, none, none, none, none, none, none, none, some (.d (eRol r)), none, none, none] _
    simp only [q_opT, q_ix, q_var, q_slot11, q_C, q_onD, q_asLd, eRol, q_ixT, q_at0, q_slot1, ePer, q_eq, v_str, q_asB, q_at2]
    refine ⟨by simp, ?_⟩
    cases z : (r.name == p.role) with
    | true => simpa [z] using q
    | false => simpa [z] using q
  · have e : ∃ rest, A.rols.filterMap (fun r => if r.name == p.role then some (PyData.tuple (r.wins.map eWin)) else none) = .tuple (rl.wins.map eWin) :: rest := by
      have h1 : A.rols.find? (fun t => t.name == p.role) = some rl := S.rol
      generalize A.rols = rs at h1
      clear hrl hR main S
      induction rs with
      | nil => simp at h1
      | cons r rs ih =>
        rw [List.find?_cons] at h1
        cases z : (r.name == p.role) with
        | true =>
          rw [z] at h1
          cases h1
          exact ⟨_, by rw [List.filterMap_cons, z]; rfl⟩
        | false =>
          rw [z] at h1
          obtain ⟨rest, e⟩ := ih h1
          exact ⟨rest, by rw [List.filterMap_cons, z]; exact e⟩
    obtain ⟨rest, e⟩ := e
    rw [List.nil_append, e]
    simp only [q_ixL, q_at0, q_noL, true_and, sq_nx]
    show wSeq _ _ _ [some (.d (eApp A)), some (.d (ePer p)), some (.d (eSt st)), some (.d (.tuple (rl.wins.map eWin))), none, none, none, none, none, none, none, none, none, none, none]
    simp only [q_seq, q_own, q_args0, q_allD0, sq_nx]
    show wFor _ _ _ _ [some (.d (eApp A)), some (.d (ePer p)), some (.d (eSt st)), some (.d (.tuple (rl.wins.map eWin))), some (.l []), none, none, none, none, none, none, none, none, none, none]
    simp only [q_for, q_enum, q_ix, q_var, q_slot0, q_C, q_onD, q_asLd, eApp, q_ixT, q_at0, q_seqT]
    have := main (DEnds.sq { nx := fun _ => R (.d .none), rt := R } (wFrz 4 (wRet (wBlt (one tupF) [(wVar 4)])) { nx := fun _ => R (.d .none), rt := R })) A.tabs.length 0 none none none none none none none none (by omega) (fun s5 s6 s7 s8 s9 s10 s12 => by
      simp only [sq_nx, q_frz, q_slot4]
      show R _
      exact hR)
    exact this
end K85

set_option maxRecDepth 100000
set_option maxHeartbeats 1000000
namespace K85
open PySem L2 DL
/-! ### _law_lot_same -/
abbrev sp__law_is_term : SpD := spV (α := T) (fun t => [.d (eT t)]) (fun _ => True) (fun _ => .bool true)
/-! _law_is_term(thing): slots 0 thing; calls  -/
def w__law_is_term : SW :=
    (wSeq (wIf (wOrT (wNotT (wTru (wIsi "tuple" (wVar 0)))) (wOrT (wOpT neF (wBlt (one lenF) [(wVar 0)]) (wC (.int 2))) (wNotT (wTru (wIsi "str" (wIx (wVar 0) (wC (.int 0)))))))) (wRet (wC (.bool false))) wNil)
    (wRet (wAnd (wIsi "int" (wIx (wVar 0) (wC (.int 1)))) (wNotV (wIsi "bool" (wIx (wVar 0) (wC (.int 1))))))))
theorem fin__law_is_term (xs : List DV) (R : DV → Prop) (h : sp__law_is_term xs R) : w__law_is_term { nx := fun _ => R (.d .none), rt := R } (startE 1 xs) := by
  obtain ⟨t, rfl, -, hR⟩ := h
  simpa [w__law_is_term, startE, eT, tyD, kt4, kt7, kt9, kt11] using hR
def minT (a b : T) : T := if PySem.W.dataLt (eT b) (eT a) = true then b else a
def maxT (a b : T) : T := if PySem.W.dataLt (eT a) (eT b) = true then b else a
def turned (f : Fa) : PyData := .tuple [eSg f.eq, eT (minT f.a f.b), eT (maxT f.a f.b)]
theorem alike_T (a b : T) : PySem.W.AlikeAll [eT a, eT b] ∧ PyData.depthAll [eT a, eT b] ≤ 60 := by
  refine ⟨⟨fun x hx y hy => ?_, fun x hx => ?_⟩, by simp [PyData.depthAll, eT_depth]⟩
  · simp at hx hy
    rcases hx with rfl | rfl <;> rcases hy with rfl | rfl <;> simp [eT, PySem.W.alike, PySem.W.alikeAll]
  · simp at hx
    rcases hx with rfl | rfl <;> simp [eT]
theorem min_ev (a b : T) (Q : PyData → Prop) (h : Q (eT (minT a b))) : minF (eT a) (eT b) Q := by
  refine ⟨alike_T a b, ?_⟩
  unfold minT at h
  split at h <;> rename_i q
  · rw [if_pos q]; exact h
  · rw [if_neg q]; exact h
theorem max_ev (a b : T) (Q : PyData → Prop) (h : Q (eT (maxT a b))) : maxF (eT a) (eT b) Q := by
  refine ⟨alike_T a b, ?_⟩
  unfold maxT at h
  split at h <;> rename_i q
  · rw [if_pos q]; exact h
  · rw [if_neg q]; exact h
abbrev sp__law_lot_same : SpD := spV (α := List Fa) (fun f => [.d (eFas f), .d (eFaL f)]) (fun f => f.length ≤ 1000) (fun _ => .bool true)
/-! _law_lot_same(told, due): slots 0 told, 1 due, 2 wanted, 3 found, 4 fact, 5 lacking, 6 sign, 7 one, 8 other; calls _law_is_term -/
def w__law_lot_same : SW :=
    (wSeq (wIf (wNotT (wTru (wIsi "tuple" (wVar 0)))) (wRet (wC (.bool false))) wNil)
    (wSeq (wSet 2 (wLc (wSeqE (wVar 1)) (.tp [6, 7, 8]) wYes (wTup [(wVar 6), (wBlt (twoB minF) [(wVar 7), (wVar 8)]), (wBlt (twoB maxF) [(wVar 7), (wVar 8)])]) [6, 7, 8]))
    (wSeq (wOwn 3 [])
    (wSeq (wFor (wSeqI (wVar 0)) (.nm 4)
      (wSeq (wIf (wOrT (wNotT (wTru (wIsi "tuple" (wVar 4)))) (wOrT (wOpT neF (wBlt (one lenF) [(wVar 4)]) (wC (.int 3))) (wNotT (wTru (wIsi "str" (wIx (wVar 4) (wC (.int 0)))))))) (wRet (wC (.bool false))) wNil)
      (wSeq (wIf (wOrT (wNotT (wTru (wCall sp__law_is_term [(wIx (wVar 4) (wC (.int 1)))]))) (wNotT (wTru (wCall sp__law_is_term [(wIx (wVar 4) (wC (.int 2)))])))) (wRet (wC (.bool false))) wNil)
      (wApp 3 (wTup [(wIx (wVar 4) (wC (.int 0))), (wBlt (twoB minF) [(wIx (wVar 4) (wC (.int 1))), (wIx (wVar 4) (wC (.int 2)))]), (wBlt (twoB maxF) [(wIx (wVar 4) (wC (.int 1))), (wIx (wVar 4) (wC (.int 2)))])])))))
    (wFrz 3 (wSeq (wSetLc 5 (wLc (wSeqE (wVar 2)) (.nm 4) (wOpT ninF (wVar 4) (wVar 3)) (wVar 4) [4]))
    (wRet (wAnd (wOp eqF (wBlt (one lenF) [(wVar 5)]) (wC (.int 0))) (wOp eqF (wBlt (one lenF) [(wLc (wSeqE (wVar 3)) (.nm 4) (wOpT ninF (wVar 4) (wVar 2)) (wVar 4) [4])]) (wC (.int 0)))))))))))
theorem turned_eqv (f : Fa) : PyData.eqv (turned f) (turned f) = true := by
  have e : ∀ t : T, PyData.eqv (eT t) (eT t) = true := fun t => by rw [eT_eqv]; simp
  simp [turned, PyData.eqv, PyData.eqvAll, e, eSg]
theorem turned_in (fs : List Fa) : ((fs.map turned).filter fun d => !((fs.map turned).any fun y => PyData.eqv y d)) = [] := by
  rw [List.filter_eq_nil_iff]
  intro d hd
  obtain ⟨f, hf, rfl⟩ := List.mem_map.mp hd
  have : (fs.map turned).any (fun y => PyData.eqv y (turned f)) = true := List.any_eq_true.mpr ⟨turned f, List.mem_map.mpr ⟨f, hf, rfl⟩, turned_eqv f⟩
  rw [this]; decide
theorem turned_depth (f : Fa) : (turned f).depth = 2 := by simp [turned, PyData.depth, PyData.depthAll, eT_depth, eSg]
section
variable {D : DEnds}
abbrev b_ls : SW := (wSeq (wIf (wOrT (wNotT (wTru (wIsi "tuple" (wVar 4)))) (wOrT (wOpT neF (wBlt (one lenF) [(wVar 4)]) (wC (.int 3))) (wNotT (wTru (wIsi "str" (wIx (wVar 4) (wC (.int 0)))))))) (wRet (wC (.bool false))) wNil)
      (wSeq (wIf (wOrT (wNotT (wTru (wCall sp__law_is_term [(wIx (wVar 4) (wC (.int 1)))]))) (wNotT (wTru (wCall sp__law_is_term [(wIx (wVar 4) (wC (.int 2)))])))) (wRet (wC (.bool false))) wNil)
      (wApp 3 (wTup [(wIx (wVar 4) (wC (.int 0))), (wBlt (twoB minF) [(wIx (wVar 4) (wC (.int 1))), (wIx (wVar 4) (wC (.int 2)))]), (wBlt (twoB maxF) [(wIx (wVar 4) (wC (.int 1))), (wIx (wVar 4) (wC (.int 2)))])]))))
theorem ls_loop : ∀ (fs : List Fa) (acc : List PyData) (s0 s1 s2 s4 s5 s6 s7 s8 : Option DV), acc.length + fs.length ≤ 1000 →
    (∀ s4, D.nx [s0, s1, s2, some (.l (acc ++ fs.map turned)), s4, s5, s6, s7, s8]) →
    loopW (.nm 4) b_ls D (fs.map eFa) [s0, s1, s2, some (.l acc), s4, s5, s6, s7, s8]
  | [], acc, s0, s1, s2, s4, s5, s6, s7, s8, _, h => by simpa using h s4
  | f :: fs, acc, s0, s1, s2, s4, s5, s6, s7, s8, hl, h => by
    rw [List.length_cons] at hl
    rw [List.map_cons, q_loop1, q_bindN]
    show b_ls _ [s0, s1, s2, some (.l acc), some (.d (eFa f)), s5, s6, s7, s8]
    simp only [q_seq, q_if, q_orT, q_notT, q_tru, q_isi, q_var, q_slot4, q_onD, eFa, tyD, Option.bind_some, kt4, q_truV, q_truB, Bool.not_true, q_opT, q_blt, q_args1, q_args0, q_one, q_asLd, q_lenT, q_C, q_ne, v_int, q_asB, q_ix, q_ixT, q_at0, eSg, kt7, List.length_cons, List.length_nil]
    refine ⟨by simp, ?_⟩
    show wSeq _ _ _ [s0, s1, s2, some (.l acc), some (.d (eFa f)), s5, s6, s7, s8]
    simp only [q_seq, q_if, q_orT, q_notT, q_tru, q_call, q_args1, q_args0, q_ix, q_var, q_slot4, q_C, q_onD, q_asLd, eFa, q_ixT, q_at1, q_noLs1, q_noLs0, q_noL, true_and, and_true]
    refine ⟨by simp, f.a, rfl, trivial, trivial, ?_⟩
    simp only [q_truV, q_truB, Bool.not_true, q_at2, q_noL, true_and]
    refine ⟨by simp, f.b, rfl, trivial, trivial, ?_⟩
    simp only [q_truV, q_truB, Bool.not_true, q_nil, sq_nx]
    show wApp _ _ _ [s0, s1, s2, some (.l acc), some (.d (eFa f)), s5, s6, s7, s8]
    simp only [q_app, q_slot3, q_tup, q_args1, q_args0, q_ix, q_var, q_slot4, q_C, q_onD, q_asLd, eFa, q_ixT, q_at0, q_blt, q_at1, q_at2, q_two]
    refine min_ev _ _ _ ?_
    refine max_ev _ _ _ ?_
    refine ⟨by rw [sz_eq]; omega, ?_⟩
    refine ls_loop fs (acc ++ [turned f]) _ _ _ _ _ _ _ _ (by rw [List.length_append]; simp; omega) ?_
    simpa using h
end
theorem fin__law_lot_same (xs : List DV) (R : DV → Prop) (h : sp__law_lot_same xs R) : w__law_lot_same { nx := fun _ => R (.d .none), rt := R } (startE 9 xs) := by
  obtain ⟨fs, rfl, hl, hR⟩ := h
  simp only at hl hR
  have dep : ∀ f : Fa, min (PyData.depthAll (fs.map turned)) (turned f).depth ≤ 60 := fun f => by
    have := Nat.min_le_right (PyData.depthAll (fs.map turned)) (turned f).depth
    rw [turned_depth] at this ⊢
    omega
  simp only [w__law_lot_same, startE, q_seq, q_if]
  show wNotT _ [some (.d (eFas fs)), some (.d (eFaL fs)), none, none, none, none, none, none, none] _
  simp only [q_notT, q_tru, q_isi, q_var, q_slot0, q_onD, eFas, tyD, Option.bind_some, kt4, q_truV, q_truB, Bool.not_true, q_nil, sq_nx, q_seq]
  show wSet _ _ _ [some (.d (eFas fs)), some (.d (eFaL fs)), none, none, none, none, none, none, none]
  simp only [q_set, q_lc, q_seqE, q_var, q_slot1, q_asLd, eFaL, q_seqL]
  refine lcW_map eFa turned fs (fun f hf Q q => ?_) (by rw [sz_eq]; omega) ?_
  · rw [eFa, q_bindT, q_bindE1, q_bindE1, q_bindE1, q_bindE0]
    show wTup _ [some (.d (eFas fs)), some (.d (eFaL fs)), none, none, none, none, some (.d (eSg f.eq)), some (.d (eT f.a)), some (.d (eT f.b))] _
    simp only [q_tup, q_args1, q_args0, q_var, q_slot6, q_slot7, q_slot8, q_blt, q_two]
    refine min_ev _ _ _ ?_
    refine max_ev _ _ _ ?_
    exact q
  · refine ⟨trivial, ?_⟩
    rw [sq_nx]
    show wSeq _ _ _ [some (.d (eFas fs)), some (.d (eFaL fs)), some (.d (.list (fs.map turned))), none, none, none, none, none, none]
    simp only [q_seq, q_own, q_args0, q_allD0, sq_nx]
    show wFor _ _ _ _ [some (.d (eFas fs)), some (.d (eFaL fs)), some (.d (.list (fs.map turned))), some (.l []), none, none, none, none, none]
    simp only [q_for, q_seqI, q_var, q_slot0, q_onD, eFas, q_seqT]
    refine ls_loop fs [] _ _ _ _ _ _ _ _ (by simpa using hl) fun s4 => ?_
    simp only [sq_nx, q_frz, q_slot3, List.nil_append]
    show wSeq _ _ _ [some (.d (eFas fs)), some (.d (eFaL fs)), some (.d (.list (fs.map turned))), some (.d (.list (fs.map turned))), s4, none, none, none, none]
    simp only [q_seq, q_setLc, q_set, q_lc, q_seqE, q_var, q_slot2, q_asLd, q_seqL]
    refine lcW_filter turned (fun f => !((fs.map turned).any fun y => PyData.eqv y (turned f))) fs (fun f hf Q q => ?_) (by rw [sz_eq]; omega) ?_
    · rw [q_bindN]
      show wOpT _ _ _ [some (.d (eFas fs)), some (.d (eFaL fs)), some (.d (.list (fs.map turned))), some (.d (.list (fs.map turned))), some (.d (turned f)), none, none, none, none] _
      simp only [q_opT, q_var, q_slot4, q_slot3, q_onD, q_ninL, q_asB]
      refine ⟨dep f, ?_⟩
      cases z : (fs.map turned).any (fun y => PyData.eqv y (turned f)) with
      | true => simp only [z] at q ⊢; exact q
      | false => simp only [z] at q ⊢; exact q
    · have e0 : (fs.filter fun f => !((fs.map turned).any fun y => PyData.eqv y (turned f))) = [] := by
        rw [List.filter_eq_nil_iff]
        intro f hf
        have : (fs.map turned).any (fun y => PyData.eqv y (turned f)) = true := List.any_eq_true.mpr ⟨turned f, List.mem_map.mpr ⟨f, hf, rfl⟩, turned_eqv f⟩
        rw [this]; decide
      rw [e0]
      refine ⟨trivial, ?_⟩
      rw [sq_nx]
      show wRet _ _ [some (.d (eFas fs)), some (.d (eFaL fs)), some (.d (.list (fs.map turned))), some (.d (.list (fs.map turned))), s4, some (.d (.list [])), none, none, none]
      simp only [q_ret, q_and, q_op, q_blt, q_args1, q_args0, q_var, q_slot5, q_one, q_asLd, q_lenL, q_onD, q_C, q_eq, v_int, q_asB, List.length_nil]
      refine ⟨by simp, ?_⟩
      rw [show (((0 : Nat) : Int) == 0) = true from rfl]
      show wLc _ _ _ _ _ [some (.d (eFas fs)), some (.d (eFaL fs)), some (.d (.list (fs.map turned))), some (.d (.list (fs.map turned))), s4, some (.d (.list [])), none, none, none] _
      simp only [q_op, q_blt, q_args1, q_args0, q_lc, q_seqE, q_var, q_slot3, q_asLd, q_seqL]
      refine lcW_filter turned (fun f => !((fs.map turned).any fun y => PyData.eqv y (turned f))) fs (fun f hf Q q => ?_) (by rw [sz_eq]; omega) ?_
      · rw [q_bindN]
        show wOpT _ _ _ [some (.d (eFas fs)), some (.d (eFaL fs)), some (.d (.list (fs.map turned))), some (.d (.list (fs.map turned))), some (.d (turned f)), some (.d (.list [])), none, none, none] _
        simp only [q_opT, q_var, q_slot4, q_slot2, q_onD, q_ninL, q_asB]
        refine ⟨dep f, ?_⟩
        cases z : (fs.map turned).any (fun y => PyData.eqv y (turned f)) with
        | true => simp only [z] at q ⊢; exact q
        | false => simp only [z] at q ⊢; exact q
      · rw [e0]
        simp only [q_one, q_asLd, q_lenL, q_onD, q_C, q_eq, v_int, List.map_nil, List.length_nil]
        refine ⟨by simp, ?_⟩
        exact hR
end K85

set_option maxRecDepth 100000
set_option maxHeartbeats 1000000
namespace K85
open PySem L2 DL
/-! ### apps that are well -/
structure App.good (A : App) : Prop where
  tabs : A.tabs.length ≤ 100
  rols : A.rols.length ≤ 100
  asks : A.asks.length ≤ 100
  wins : ∀ r ∈ A.rols, r.wins.length ≤ 100
  badge : ∀ r ∈ A.rols, r.badge.length ≤ 100
  flds : ∀ t ∈ A.tabs, t.flds.length ≤ 100
  ok : ∀ r ∈ A.rols, ∀ w ∈ r.wins, w.ok
  tnd : (A.tabs.map (·.name)).Nodup
  tnm : ∀ t ∈ A.tabs, PyData.strOk t.name = true
  rnd : (A.rols.map (·.name)).Nodup
  wnd : ∀ r ∈ A.rols, r.nd
  wtab : ∀ r ∈ A.rols, ∀ w ∈ r.wins, ∃ t ∈ A.tabs, t.name = w.tbl
  and_ : (A.asks.map (·.name)).Nodup
  arol : ∀ a ∈ A.asks, ∃ r ∈ A.rols, r.name = a.role
  atab : ∀ a ∈ A.asks, ∃ t ∈ A.tabs, t.name = a.tbl
theorem find_by {α : Type} (f : α → Str) {l : List α} (nd : (l.map f).Nodup) {a : α} (h : a ∈ l) : (l.find? fun x => f x == f a) = some a := by
  induction l with
  | nil => cases h
  | cons b l ih =>
    rw [List.map_cons, List.nodup_cons] at nd
    rcases List.mem_cons.mp h with rfl | h
    · simp
    · have ne : (f b == f a) = false := by
        apply beq_eq_false_iff_ne.mpr
        intro q
        exact nd.1 (List.mem_map.mpr ⟨a, h, q.symm⟩)
      rw [List.find?_cons, ne]
      exact ih nd.2 h
section
variable {A : App} (G : A.good)
include G
theorem App.good.rol {r : Rol} (h : r ∈ A.rols) : A.rol r.name = some r := find_by Rol.name G.rnd h
theorem App.good.tab {t : Tbl} (h : t ∈ A.tabs) : A.tab t.name = some t := find_by Tbl.name G.tnd h
theorem App.good.ask {t : Ask} (h : t ∈ A.asks) : A.ask t.name = some t := find_by Ask.name G.and_ h
theorem App.good.win {r : Rol} (h : r ∈ A.rols) {w : Win} (hw : w ∈ r.wins) : r.win w.tbl = some w := find_by Win.tbl (G.wnd r h) hw
theorem App.good.fit : A.fit := ⟨G.tabs, G.rols, G.wins, G.ok⟩
end
theorem trimR_names (l : List Rol) : (l.map trimR).map (·.name) = l.map (·.name) := by
  rw [List.map_map]; rfl
theorem trimmed_tbls : ∀ (ws : List Win), (∀ w ∈ ws, w.ok) → ((ws.filterMap trimW).map (·.tbl)).Sublist (ws.map (·.tbl))
  | [], _ => List.Sublist.refl _
  | w :: ws, h => by
    have ih := trimmed_tbls ws fun w hw => h w (by simp [hw])
    rw [List.filterMap_cons]
    cases q : trimW w with
    | none => exact List.Sublist.cons _ ih
    | some w' =>
      have e := (trimW_some (h w (by simp)) q).2.2.2.1
      rw [List.map_cons, List.map_cons, e]
      exact List.Sublist.cons_cons _ ih
theorem App.good.trim {A : App} (G : A.good) : (trimA A).good where
  tabs := G.tabs
  rols := by show (A.rols.map trimR).length ≤ 100; rw [List.length_map]; exact G.rols
  asks := G.asks
  wins := fun r hr => by
    obtain ⟨r0, h0, rfl⟩ := List.mem_map.mp hr
    exact Nat.le_trans (List.length_filterMap_le _ _) (G.wins r0 h0)
  badge := fun r hr => by
    obtain ⟨r0, h0, rfl⟩ := List.mem_map.mp hr
    exact G.badge r0 h0
  flds := G.flds
  ok := fun r hr w hw => by
    obtain ⟨r0, h0, rfl⟩ := List.mem_map.mp hr
    obtain ⟨w0, g0, e⟩ := List.mem_filterMap.mp hw
    exact (trimW_some (G.ok r0 h0 w0 g0) e).1
  tnd := G.tnd
  tnm := G.tnm
  rnd := by show ((A.rols.map trimR).map (·.name)).Nodup; rw [trimR_names]; exact G.rnd
  wnd := fun r hr => by
    obtain ⟨r0, h0, rfl⟩ := List.mem_map.mp hr
    exact (trimmed_tbls r0.wins (G.ok r0 h0)).nodup (G.wnd r0 h0)
  wtab := fun r hr w hw => by
    obtain ⟨r0, h0, rfl⟩ := List.mem_map.mp hr
    obtain ⟨w0, g0, e⟩ := List.mem_filterMap.mp hw
    rw [(trimW_some (G.ok r0 h0 w0 g0) e).2.2.2.1]
    exact G.wtab r0 h0 w0 g0
  and_ := G.and_
  arol := fun a ha => by
    obtain ⟨r, hr, e⟩ := G.arol a ha
    exact ⟨trimR r, List.mem_map.mpr ⟨r, hr, rfl⟩, e⟩
  atab := G.atab
/-! what is told is made of tuples -/
theorem tupD_map {α : Type} (f : α → PyData) {l : List α} (hl : l.length ≤ 100000) (h : ∀ a ∈ l, tupD (f a) = true) : tupD (.tuple (l.map f)) = true := by
  simp only [tupD, Bool.and_eq_true, decide_eq_true_eq, List.length_map]
  refine ⟨hl, tupAll_iff.mpr fun x hx => ?_⟩
  obtain ⟨a, ha, rfl⟩ := List.mem_map.mp hx
  exact h a ha
theorem dep_map {α : Type} (f : α → PyData) {l : List α} {n : Nat} (h : ∀ a ∈ l, (f a).depth ≤ n) : (PyData.tuple (l.map f)).depth ≤ n + 1 := by
  simp only [PyData.depth]
  have := depthAll_le (l := l.map f) (n := n) fun d hd => by
    obtain ⟨a, ha, rfl⟩ := List.mem_map.mp hd
    exact h a ha
  omega
theorem tup_nats (l : List Nat) (h : l.length ≤ 1000) : tupD (eNats l) = true ∧ (eNats l).depth ≤ 12 :=
  ⟨tupD_map eInt (by omega) fun n _ => rfl, by have := dep_map eInt (l := l) (n := 0) fun n _ => (by simp [eInt, PyData.depth]); unfold eNats; omega⟩
theorem spareB_len (l : List Lot) : (spareB l).length ≤ 1 := by
  unfold spareB
  split
  · split
    · simp
    · split <;> simp
  · simp
theorem tup_Lk (k : Lk) : tupD (eLk k) = true ∧ (eLk k).depth ≤ 2 := by
  obtain ⟨e, n, t⟩ := k
  cases t <;> simp [eLk, eTm, eSg, tupD, tupAll, PyData.depth, PyData.depthAll]
theorem tup_Win {w : Win} (h : w.ok) : tupD (eWin w) = true ∧ (eWin w).depth ≤ 5 := by
  have l1 : ∀ l ∈ w.lots, tupD (eLot l) = true ∧ (eLot l).depth ≤ 3 := fun l hl =>
    ⟨tupD_map eLk (by have := h.lot l hl; omega) fun k _ => (tup_Lk k).1, dep_map eLk fun k _ => (tup_Lk k).2⟩
  have a1 := tupD_map eLot (l := w.lots) (by have := h.two; omega) fun l hl => (l1 l hl).1
  have a2 := dep_map eLot (l := w.lots) (n := 3) fun l hl => (l1 l hl).2
  have b1 := tupD_map eInt (l := w.shown) (by have := h.shown; omega) fun n _ => rfl
  have b2 := dep_map eInt (l := w.shown) (n := 0) fun n _ => (by simp [eInt, PyData.depth])
  constructor
  · simp [eWin, tupD, tupAll] at a1 b1 ⊢
    exact ⟨a1, b1⟩
  · simp only [eWin, PyData.depth, PyData.depthAll] at a2 b2 ⊢
    omega
theorem tup_App {A : App} (G : A.good) : tupD (eApp A) = true ∧ (eApp A).depth ≤ 12 := by
  have r1 : ∀ r ∈ A.rols, tupD (eRol r) = true ∧ (eRol r).depth ≤ 7 := fun r hr => by
    have a1 := tupD_map eWin (l := r.wins) (by have := G.wins r hr; omega) fun w hw => (tup_Win (G.ok r hr w hw)).1
    have a2 := dep_map eWin (l := r.wins) (n := 5) fun w hw => (tup_Win (G.ok r hr w hw)).2
    have b1 := tupD_map PyData.str (l := r.badge) (by have := G.badge r hr; omega) fun w hw => rfl
    have b2 := dep_map PyData.str (l := r.badge) (n := 0) fun w hw => (by simp)
    constructor
    · simp [eRol, tupD, tupAll] at a1 b1 ⊢
      exact ⟨b1, a1⟩
    · simp only [eRol, PyData.depth, PyData.depthAll] at a2 b2 ⊢
      omega
  have t1 : ∀ t ∈ A.tabs, tupD (eTbl t) = true ∧ (eTbl t).depth ≤ 2 := fun t ht => by
    have b1 := tupD_map PyData.str (l := t.flds) (by have := G.flds t ht; omega) fun w hw => rfl
    have b2 := dep_map PyData.str (l := t.flds) (n := 0) fun w hw => (by simp)
    constructor
    · simp [eTbl, tupD, tupAll] at b1 ⊢
      exact b1
    · simp only [eTbl, PyData.depth, PyData.depthAll] at b2 ⊢
      omega
  have k1 : ∀ a ∈ A.asks, tupD (eAsk a) = true ∧ (eAsk a).depth ≤ 2 := fun a _ => by
    simp [eAsk, tupD, tupAll, PyData.depth, PyData.depthAll]
  have a1 := tupD_map eRol (l := A.rols) (by have := G.rols; omega) fun r hr => (r1 r hr).1
  have a2 := dep_map eRol (l := A.rols) (n := 7) fun r hr => (r1 r hr).2
  have b1 := tupD_map eTbl (l := A.tabs) (by have := G.tabs; omega) fun r hr => (t1 r hr).1
  have b2 := dep_map eTbl (l := A.tabs) (n := 2) fun r hr => (t1 r hr).2
  have c1 := tupD_map eAsk (l := A.asks) (by have := G.asks; omega) fun r hr => (k1 r hr).1
  have c2 := dep_map eAsk (l := A.asks) (n := 2) fun r hr => (k1 r hr).2
  constructor
  · simp [eApp, tupD, tupAll] at a1 b1 c1 ⊢
    exact ⟨b1, a1, c1⟩
  · simp only [eApp, PyData.depth, PyData.depthAll] at a2 b2 c2 ⊢
    omega
theorem idles_len {A : App} (G : A.good) : (idlesA A).length ≤ 10000 := by
  have : ∀ rs : List Rol, (∀ r ∈ rs, r.wins.length ≤ 100) → (rs.flatMap idlesR).length ≤ rs.length * 100 := by
    intro rs
    induction rs with
    | nil => intro _; simp
    | cons r rs ih =>
      intro h
      have h1 := ih fun r hr => h r (by simp [hr])
      have h2 := h r (by simp)
      have h3 : (idlesR r).length ≤ r.wins.length := by
        unfold idlesR
        rw [List.length_map]
        exact List.length_filter_le _ _
      rw [List.flatMap_cons, List.length_append, List.length_cons, Nat.add_mul]
      omega
  have h := this A.rols G.wins
  have := G.rols
  unfold idlesA
  omega
theorem tup_idles {A : App} (G : A.good) : tupD (eIdles (idlesA A)) = true ∧ (eIdles (idlesA A)).depth ≤ 12 := by
  have pm := List.mergeSort_perm ((idlesA A).map eP) (PySem.W.dataLe false id)
  constructor
  · simp only [eIdles, srt, tupD, Bool.and_eq_true, decide_eq_true_eq]
    refine ⟨by rw [pm.length_eq, List.length_map]; have := idles_len G; omega, tupAll_iff.mpr fun x hx => ?_⟩
    obtain ⟨p, _, rfl⟩ := List.mem_map.mp (pm.mem_iff.mp hx)
    rfl
  · simp only [eIdles, srt, PyData.depth]
    have := depthAll_le (n := 1) (l := ((idlesA A).map eP).mergeSort (PySem.W.dataLe false id)) fun d hd => by
      obtain ⟨p, _, rfl⟩ := List.mem_map.mp (pm.mem_iff.mp hd)
      simp [eP, PyData.depth, PyData.depthAll]
    omega
end K85

set_option maxRecDepth 100000
set_option maxHeartbeats 1000000
namespace K85
open PySem L2 DL
/-! ### _law_windows_right -/
abbrev sp__law_windows_right : SpD := spV (α := App) (fun A => [.d (eApp A), .d (eApp (trimA A))]) (fun A => A.good) (fun _ => .bool true)
/-! _law_windows_right(app, less): slots 0 app, 1 less, 2 idle, 3 name, 4 badge, 5 windows, 6 one, 7 table, 8 lots, 9 shown, 10 many, 11 fields, 12 due, 13 told, 14 role, 15 named_v, 16 lot, 17 at; calls _law_facts, _law_idle, _law_lot_same, _law_same, _law_spare, idle_windows, seen_lots, sizes, spare_lots, trimmed -/
def w__law_windows_right : SW :=
    (wSeq (wOwn 2 [])
    (wSeq (wFor (wSeqI (wIx (wVar 0) (wC (.int 1)))) (.tp [3, 4, 5])
      (wFor (wSeqI (wVar 5)) (.tp [7, 8, 9])
        (wSeq (wIf (wNotT (wTru (wCall sp__law_same [(wCall sp_spare_lots [(wVar 0), (wVar 3), (wVar 7)]), (wCall sp__law_spare [(wVar 8)])]))) (wRet (wC (.bool false))) wNil)
        (wIf (wTru (wCall sp__law_idle [(wVar 8)])) (wApp 2 (wTup [(wVar 3), (wVar 7)])) wNil))))
    (wFrz 2 (wSeq (wIf (wOrT (wNotT (wTru (wCall sp__law_same [(wCall sp_idle_windows [(wVar 0)]), (wBlt (one tupF) [(wBlt (one sortedF) [(wVar 2)])])]))) (wNotT (wTru (wCall sp__law_same [(wCall sp_trimmed [(wVar 0)]), (wVar 1)])))) (wRet (wC (.bool false))) wNil)
    (wSeq (wFor (wSeqI (wTup [(wVar 0), (wVar 1)])) (.nm 6)
      (wSeq (wSet 10 (wBlt (one sumF) [(wLc (wSeqE (wIx (wVar 6) (wC (.int 0)))) (.tp [7, 11]) wYes (wBlt (one lenF) [(wVar 11)]) [7, 11])]))
      (wSeq (wSet 5 (wBlt (one sumF) [(wLc (wSeqE (wIx (wVar 6) (wC (.int 1)))) (.nm 14) wYes (wBlt (one lenF) [(wIx (wVar 14) (wC (.int 2)))]) [14])]))
      (wIf (wNotT (wTru (wCall sp__law_same [(wCall sp_sizes [(wVar 6)]), (wTup [(wBlt (one lenF) [(wIx (wVar 6) (wC (.int 0)))]), (wVar 10), (wBlt (one lenF) [(wIx (wVar 6) (wC (.int 1)))]), (wVar 5), (wBlt (one lenF) [(wIx (wVar 6) (wC (.int 2)))]), (wBlt (one lenF) [(wIx (wVar 6) (wC (.int 3)))])])]))) (wRet (wC (.bool false))) wNil))))
    (wSeq (wIf (wOrT (wNotT (wTru (wCall sp__law_same [(wCall sp_trimmed [(wVar 1)]), (wVar 1)]))) (wNotT (wTru (wCall sp__law_same [(wCall sp_idle_windows [(wVar 1)]), (wTup [])])))) (wRet (wC (.bool false))) wNil)
    (wSeq (wFor (wSeqI (wIx (wVar 1) (wC (.int 1)))) (.tp [3, 4, 5])
      (wFor (wSeqI (wIx (wVar 1) (wC (.int 0)))) (.tp [7, 11])
        (wSeq (wSet 8 (wLc (wSeqE (wVar 5)) (.tp [15, 8, 9]) (wOpT eqF (wVar 15) (wVar 7)) (wVar 8) [15, 8, 9]))
        (wSeq (wSet 12 (wLc (wSeqE (wIx (wOp addF (wVar 8) (wLst [(wTup [])])) (wC (.int 0)))) (.nm 16) wYes (wCall sp__law_facts [(wVar 16), (wC (.bool false))]) [16]))
        (wSeq (wSet 13 (wCall sp_seen_lots [(wVar 1), (wVar 3), (wVar 7), (wC (.str "o"))]))
        (wSeq (wIf (wOrT (wNotT (wTru (wIsi "tuple" (wVar 13)))) (wOpT neF (wBlt (one lenF) [(wVar 13)]) (wBlt (one lenF) [(wVar 12)]))) (wRet (wC (.bool false))) wNil)
        (wIf (wOpT gtF (wBlt (one lenF) [(wLc (wRng1 (wBlt (one lenF) [(wVar 12)])) (.nm 17) (wNotT (wTru (wCall sp__law_lot_same [(wIx (wVar 13) (wVar 17)), (wIx (wVar 12) (wVar 17))]))) (wVar 17) [17])]) (wC (.int 0))) (wRet (wC (.bool false))) wNil)))))))
    (wRet (wC (.bool true))))))))))
theorem same_ok {d : PyData} {Q : DV → Prop} (h : tupD d = true ∧ d.depth ≤ 12) (q : Q (.d (.bool true))) : sp__law_same [.d d, .d d] Q := ⟨d, rfl, h.1, h.2, q⟩
section
variable {D : DEnds} {A : App} (G : A.good)
abbrev b_w1 : SW := (wSeq (wIf (wNotT (wTru (wCall sp__law_same [(wCall sp_spare_lots [(wVar 0), (wVar 3), (wVar 7)]), (wCall sp__law_spare [(wVar 8)])]))) (wRet (wC (.bool false))) wNil)
        (wIf (wTru (wCall sp__law_idle [(wVar 8)])) (wApp 2 (wTup [(wVar 3), (wVar 7)])) wNil))
include G
theorem w1_in (r : Rol) (hr : r ∈ A.rols) : ∀ (ws : List Win) (acc : List PyData) (s1 s4 s5 s6 s7 s8 s9 : Option DV) (tl : En), (∀ w ∈ ws, w ∈ r.wins) → acc.length + ws.length ≤ 100000 →
    (∀ s7 s8 s9, D.nx (some (.d (eApp A)) :: s1 :: some (.l (acc ++ (ws.filter idleB).map fun w => eP (r.name, w.tbl))) :: some (.d (.str r.name)) :: s4 :: s5 :: s6 :: s7 :: s8 :: s9 :: tl)) →
    loopW (.tp [7, 8, 9]) b_w1 D (ws.map eWin) (some (.d (eApp A)) :: s1 :: some (.l acc) :: some (.d (.str r.name)) :: s4 :: s5 :: s6 :: s7 :: s8 :: s9 :: tl)
  | [], acc, s1, s4, s5, s6, s7, s8, s9, tl, _, _, h => by simpa using h s7 s8 s9
  | w :: ws, acc, s1, s4, s5, s6, s7, s8, s9, tl, hw, hl, h => by
    rw [List.length_cons] at hl
    have hm := hw w (by simp)
    have g := G.ok r hr w hm
    obtain ⟨t, ht, et⟩ := G.wtab r hr w hm
    have gt := G.tab ht
    rw [et] at gt
    rw [List.map_cons, q_loop1, eWin, q_bindT, q_bindE1, q_bindE1, q_bindE1, q_bindE0]
    show b_w1 _ (some (.d (eApp A)) :: s1 :: some (.l acc) :: some (.d (.str r.name)) :: s4 :: s5 :: s6 :: some (.d (.str w.tbl)) :: some (.d (.tuple (w.lots.map eLot))) :: some (.d (.tuple (w.shown.map eInt))) :: tl)
    simp only [q_seq, q_if, q_notT, q_tru, q_call, q_args1, q_args0, q_var, q_slot0, q_slot3, q_slot7, q_slot8]
    refine ⟨by simp, (A, r.name, w.tbl, r, t, w), rfl, ⟨G.rol hr, gt, G.win hr hm, g⟩, trivial, ?_⟩
    refine ⟨by simp, w.lots, rfl, ⟨g.two, fun l hl => by have := g.lot l hl; omega⟩, trivial, ?_⟩
    refine ⟨by simp, same_ok (tup_nats (spareB w.lots) (by have := spareB_len w.lots; omega)) ⟨trivial, ?_⟩⟩
    simp only [q_truV, q_truB, Bool.not_true, q_nil, sq_nx]
    show wIf _ _ _ _ (some (.d (eApp A)) :: s1 :: some (.l acc) :: some (.d (.str r.name)) :: s4 :: s5 :: s6 :: some (.d (.str w.tbl)) :: some (.d (.tuple (w.lots.map eLot))) :: some (.d (.tuple (w.shown.map eInt))) :: tl)
    simp only [q_if, q_tru, q_call, q_args1, q_args0, q_var, q_slot8]
    refine ⟨by simp, w.lots, rfl, ⟨by have := g.two; omega, fun l hl => by have := g.lot l hl; omega⟩, trivial, ?_⟩
    show match idleB w with
      | true => _
      | false => _
    rw [List.filter_cons] at h
    cases q : idleB w with
    | true =>
      rw [q, if_pos rfl] at h
      simp only [q_app, q_slot2, q_tup, q_args1, q_args0, q_var, q_slot3, q_slot7, q_allD1, q_allD0, q_onD]
      refine ⟨by rw [sz_eq]; omega, ?_⟩
      refine w1_in r hr ws (acc ++ [eP (r.name, w.tbl)]) _ _ _ _ _ _ _ tl (fun w h => hw w (by simp [h])) (by rw [List.length_append]; simp; omega) ?_
      simpa using h
    | false =>
      rw [q, if_neg (by decide)] at h
      exact w1_in r hr ws acc _ _ _ _ _ _ _ tl (fun w h => hw w (by simp [h])) (by omega) h
theorem w1_out : ∀ (rs : List Rol) (acc : List PyData) (s1 s3 s4 s5 s6 s7 s8 s9 : Option DV) (tl : En), (∀ r ∈ rs, r ∈ A.rols) → acc.length + rs.length * 100 ≤ 100000 →
    (∀ s3 s4 s5 s7 s8 s9, D.nx (some (.d (eApp A)) :: s1 :: some (.l (acc ++ (rs.flatMap idlesR).map eP)) :: s3 :: s4 :: s5 :: s6 :: s7 :: s8 :: s9 :: tl)) →
    loopW (.tp [3, 4, 5]) (wFor (wSeqI (wVar 5)) (.tp [7, 8, 9]) b_w1) D (rs.map eRol) (some (.d (eApp A)) :: s1 :: some (.l acc) :: s3 :: s4 :: s5 :: s6 :: s7 :: s8 :: s9 :: tl)
  | [], acc, s1, s3, s4, s5, s6, s7, s8, s9, tl, _, _, h => by simpa using h s3 s4 s5 s7 s8 s9
  | r :: rs, acc, s1, s3, s4, s5, s6, s7, s8, s9, tl, hm, hl, h => by
    rw [List.length_cons, Nat.add_mul] at hl
    have hr := hm r (by simp)
    have gw := G.wins r hr
    rw [List.map_cons, q_loop1, eRol, q_bindT, q_bindE1, q_bindE1, q_bindE1, q_bindE0]
    show wFor _ _ _ _ (some (.d (eApp A)) :: s1 :: some (.l acc) :: some (.d (.str r.name)) :: some (.d (.tuple (r.badge.map .str))) :: some (.d (.tuple (r.wins.map eWin))) :: s6 :: s7 :: s8 :: s9 :: tl)
    simp only [q_for, q_seqI, q_var, q_slot5, q_onD, q_seqT]
    refine w1_in G r hr r.wins acc _ _ _ _ _ _ _ tl (fun w h => h) (by omega) fun s7 s8 s9 => ?_
    have e : ((r.wins.filter idleB).map fun w => eP (r.name, w.tbl)) = (idlesR r).map eP := by simp [idlesR, List.map_map, Function.comp_def]
    rw [e]
    have gl : ((idlesR r).map eP).length ≤ 100 := by
      unfold idlesR
      rw [List.length_map, List.length_map]
      exact Nat.le_trans (List.length_filter_le _ _) gw
    refine w1_out rs (acc ++ (idlesR r).map eP) _ _ _ _ _ _ _ _ tl (fun r h => hm r (by simp [h])) (by rw [List.length_append]; omega) ?_
    simpa using h
omit G
/-! sizes -/
theorem tup_sizes (A : App) : tupD (.tuple ((sizesA A).map .int)) = true ∧ (PyData.tuple ((sizesA A).map .int)).depth ≤ 12 := by
  simp [sizesA, tupD, tupAll, PyData.depth, PyData.depthAll]
abbrev b_w2 : SW := (wSeq (wSet 10 (wBlt (one sumF) [(wLc (wSeqE (wIx (wVar 6) (wC (.int 0)))) (.tp [7, 11]) wYes (wBlt (one lenF) [(wVar 11)]) [7, 11])]))
      (wSeq (wSet 5 (wBlt (one sumF) [(wLc (wSeqE (wIx (wVar 6) (wC (.int 1)))) (.nm 14) wYes (wBlt (one lenF) [(wIx (wVar 14) (wC (.int 2)))]) [14])]))
      (wIf (wNotT (wTru (wCall sp__law_same [(wCall sp_sizes [(wVar 6)]), (wTup [(wBlt (one lenF) [(wIx (wVar 6) (wC (.int 0)))]), (wVar 10), (wBlt (one lenF) [(wIx (wVar 6) (wC (.int 1)))]), (wVar 5), (wBlt (one lenF) [(wIx (wVar 6) (wC (.int 2)))]), (wBlt (one lenF) [(wIx (wVar 6) (wC (.int 3)))])])]))) (wRet (wC (.bool false))) wNil)))
theorem w2_one {B : App} (GB : B.good) (s0 s1 s2 s3 s4 s5 s7 s8 s9 s10 s11 s12 s13 s14 s15 s16 s17 : Option DV) (h : ∀ s5 s10, D.nx [s0, s1, s2, s3, s4, s5, some (.d (eApp B)), s7, s8, s9, s10, s11, s12, s13, s14, s15, s16, s17]) :
    b_w2 D [s0, s1, s2, s3, s4, s5, some (.d (eApp B)), s7, s8, s9, s10, s11, s12, s13, s14, s15, s16, s17] := by
  simp only [q_seq, q_set, q_blt, q_args1, q_args0, q_lc, q_seqE, q_ix, q_var, q_slot6, q_C, q_onD, q_asLd, eApp, q_ixT, q_at0, q_seqT]
  refine lcW_map eTbl (fun t => .int (t.flds.length : Int)) _ (fun t ht Q q => ?_) (by have := GB.tabs; rw [sz_eq]; omega) ?_
  · rw [eTbl, q_bindT, q_bindE1, q_bindE1, q_bindE0]
    show wBlt _ _ [s0, s1, s2, s3, s4, s5, some (.d (eApp B)), some (.d (.str t.name)), s8, s9, s10, some (.d (.tuple (t.flds.map .str))), s12, s13, s14, s15, s16, s17] _
    simpa using q
  refine ⟨B.tabs.map fun (t : Tbl) => (t.flds.length : Int), by simp [List.map_map, Function.comp_def], trivial, ?_⟩
  rw [sq_nx]
  show wSeq _ _ _ [s0, s1, s2, s3, s4, s5, some (.d (eApp B)), s7, s8, s9, some (.d (.int (B.tabs.map fun (t : Tbl) => (t.flds.length : Int)).sum)), s11, s12, s13, s14, s15, s16, s17]
  simp only [q_seq, q_set, q_blt, q_args1, q_args0, q_lc, q_seqE, q_ix, q_var, q_slot6, q_C, q_onD, q_asLd, eApp, q_ixT, q_at1, q_seqT]
  refine lcW_map eRol (fun r => .int (r.wins.length : Int)) _ (fun r hr Q q => ?_) (by have := GB.rols; rw [sz_eq]; omega) ?_
  · rw [q_bindN]
    show wBlt _ _ [s0, s1, s2, s3, s4, s5, some (.d (eApp B)), s7, s8, s9, some (.d (.int (B.tabs.map fun (t : Tbl) => (t.flds.length : Int)).sum)), s11, s12, s13, some (.d (eRol r)), s15, s16, s17] _
    simp [eRol]
    exact q
  refine ⟨B.rols.map fun (t : Rol) => (t.wins.length : Int), by simp [List.map_map, Function.comp_def], trivial, ?_⟩
  rw [sq_nx]
  show wIf _ _ _ _ [s0, s1, s2, s3, s4, some (.d (.int (B.rols.map fun (t : Rol) => (t.wins.length : Int)).sum)), some (.d (eApp B)), s7, s8, s9, some (.d (.int (B.tabs.map fun (t : Tbl) => (t.flds.length : Int)).sum)), s11, s12, s13, s14, s15, s16, s17]
  simp only [q_if, q_notT, q_tru, q_call, q_args1, q_args0, q_var, q_slot6]
  refine ⟨by simp, B, rfl, ⟨by have := GB.tabs; omega, by have := GB.rols; omega⟩, trivial, ?_⟩
  simp
  have e : PyData.tuple [.int B.tabs.length, .int (B.tabs.map fun (t : Tbl) => (t.flds.length : Int)).sum, .int B.rols.length, .int (B.rols.map fun (t : Rol) => (t.wins.length : Int)).sum, .int B.asks.length, .int 0] = .tuple ((sizesA B).map .int) := rfl
  simp only [eApp, q_ixT, q_at0, q_at1, q_at2, q_at3, q_lenT, List.length_map, List.length_nil]
  exact same_ok (tup_sizes B) ⟨trivial, h _ _⟩
/-! the seen lots of what is left -/
abbrev b_w3 : SW := (wSeq (wSet 8 (wLc (wSeqE (wVar 5)) (.tp [15, 8, 9]) (wOpT eqF (wVar 15) (wVar 7)) (wVar 8) [15, 8, 9]))
        (wSeq (wSet 12 (wLc (wSeqE (wIx (wOp addF (wVar 8) (wLst [(wTup [])])) (wC (.int 0)))) (.nm 16) wYes (wCall sp__law_facts [(wVar 16), (wC (.bool false))]) [16]))
        (wSeq (wSet 13 (wCall sp_seen_lots [(wVar 1), (wVar 3), (wVar 7), (wC (.str "o"))]))
        (wSeq (wIf (wOrT (wNotT (wTru (wIsi "tuple" (wVar 13)))) (wOpT neF (wBlt (one lenF) [(wVar 13)]) (wBlt (one lenF) [(wVar 12)]))) (wRet (wC (.bool false))) wNil)
        (wIf (wOpT gtF (wBlt (one lenF) [(wLc (wRng1 (wBlt (one lenF) [(wVar 12)])) (.nm 17) (wNotT (wTru (wCall sp__law_lot_same [(wIx (wVar 13) (wVar 17)), (wIx (wVar 12) (wVar 17))]))) (wVar 17) [17])]) (wC (.int 0))) (wRet (wC (.bool false))) wNil)))))
theorem wins_filter {r : Rol} (nd : r.nd) (n : Str) : r.wins.filterMap (fun w => if w.tbl == n then some (PyData.tuple (w.lots.map eLot)) else none) = match r.win n with
    | some w => [.tuple (w.lots.map eLot)]
    | none => [] := by
  unfold Rol.win
  unfold Rol.nd at nd
  generalize r.wins = ws at nd
  induction ws with
  | nil => rfl
  | cons w ws ih =>
    rw [List.map_cons, List.nodup_cons] at nd
    rw [List.filterMap_cons, List.find?_cons]
    cases q : (w.tbl == n) with
    | false => exact ih nd.2
    | true =>
      have qe : w.tbl = n := eq_of_beq q
      have : ws.filterMap (fun w => if w.tbl == n then some (PyData.tuple (w.lots.map eLot)) else none) = [] := by
        rw [List.filterMap_eq_nil_iff]
        intro v hv
        have : (v.tbl == n) = false := beq_eq_false_iff_ne.mpr fun e => nd.1 (List.mem_map.mpr ⟨v, hv, e.trans qe.symm⟩)
        rw [this]; rfl
      simp only [if_true]
      rw [this]
theorem w3_one {B : App} (GB : B.good) {r : Rol} (hr : r ∈ B.rols) {t : Tbl} (ht : t ∈ B.tabs) (s0 s2 s4 s6 s8 s9 s10 s11 s12 s13 s14 s15 s16 s17 : Option DV)
    (h : ∀ s8 s12 s13, D.nx [s0, some (.d (eApp B)), s2, some (.d (.str r.name)), s4, some (.d (.tuple (r.wins.map eWin))), s6, some (.d (.str t.name)), s8, s9, s10, s11, s12, s13, s14, s15, s16, s17]) :
    b_w3 D [s0, some (.d (eApp B)), s2, some (.d (.str r.name)), s4, some (.d (.tuple (r.wins.map eWin))), s6, some (.d (.str t.name)), s8, s9, s10, s11, s12, s13, s14, s15, s16, s17] := by
  have gw := GB.wins r hr
  have okw : ∀ w, r.win t.name = some w → w.ok := fun w e => GB.ok r hr w (win_mem e)
  let L := seenL (r.win t.name) "o"
  have hL : L.length ≤ 2 := by
    show (seenL (r.win t.name) "o").length ≤ 2
    cases q : r.win t.name with
    | none => simp [seenL]
    | some w => have := (okw w q).two; simpa [seenL] using this
  have hL2 : ∀ f ∈ L, f.length ≤ 4 := by
    intro f hf
    have hf : f ∈ seenL (r.win t.name) "o" := hf
    cases q : r.win t.name with
    | none => rw [q] at hf; simp [seenL] at hf
    | some w =>
      rw [q] at hf
      simp [seenL] at hf
      obtain ⟨l, hl, rfl⟩ := hf
      rw [List.length_map]
      exact (okw w q).lot l hl
  simp only [q_seq, q_set, q_lc, q_seqE, q_var, q_slot5, q_asLd, q_seqT]
  refine lcW_fm eWin (fun w => if w.tbl == t.name then some (PyData.tuple (w.lots.map eLot)) else none) r.wins [] (fun w hw Q q => ?_) (by rw [sz_eq]; simp; omega) ?_
  · rw [eWin, q_bindT, q_bindE1, q_bindE1, q_bindE1, q_bindE0]
    show wOpT _ _ _ [s0, some (.d (eApp B)), s2, some (.d (.str r.name)), s4, some (.d (.tuple (r.wins.map eWin))), s6, some (.d (.str t.name)), some (.d (.tuple (w.lots.map eLot))), some (.d (.tuple (w.shown.map eInt))), s10, s11, s12, s13, s14, some (.d (.str w.tbl)), s16, s17] _
    simp only [q_opT, q_var, q_slot15, q_slot7, q_onD, q_eq, v_str, q_asB, q_slot8]
    refine ⟨by simp, ?_⟩
    cases z : (w.tbl == t.name) with
    | true => simp only [z] at q ⊢; exact q
    | false => simp only [z] at q ⊢; exact q
  rw [wins_filter (GB.wnd r hr), List.nil_append]
  refine ⟨trivial, ?_⟩
  rw [sq_nx]
  have step2 : ∀ X : List PyData, (∃ ls : List Lot, (atI (X ++ [PyData.tuple []]) 0 = some (.tuple (ls.map eLot)) ∧ ls.map lotO = L ∧ ls.length ≤ 2 ∧ (∀ l ∈ ls, l.length ≤ 4) ∧ X.length ≤ 1)) →
      (wSeq (wSet 12 (wLc (wSeqE (wIx (wOp addF (wVar 8) (wLst [(wTup [])])) (wC (.int 0)))) (.nm 16) wYes (wCall sp__law_facts [(wVar 16), (wC (.bool false))]) [16]))
        (wSeq (wSet 13 (wCall sp_seen_lots [(wVar 1), (wVar 3), (wVar 7), (wC (.str "o"))]))
        (wSeq (wIf (wOrT (wNotT (wTru (wIsi "tuple" (wVar 13)))) (wOpT neF (wBlt (one lenF) [(wVar 13)]) (wBlt (one lenF) [(wVar 12)]))) (wRet (wC (.bool false))) wNil)
        (wIf (wOpT gtF (wBlt (one lenF) [(wLc (wRng1 (wBlt (one lenF) [(wVar 12)])) (.nm 17) (wNotT (wTru (wCall sp__law_lot_same [(wIx (wVar 13) (wVar 17)), (wIx (wVar 12) (wVar 17))]))) (wVar 17) [17])]) (wC (.int 0))) (wRet (wC (.bool false))) wNil)))) D
      [s0, some (.d (eApp B)), s2, some (.d (.str r.name)), s4, some (.d (.tuple (r.wins.map eWin))), s6, some (.d (.str t.name)), some (.d (.list X)), s9, s10, s11, s12, s13, s14, s15, s16, s17] := by
    rintro X ⟨ls, e1, e2, e3, e4, e5⟩
    simp only [q_seq, q_set, q_lc, q_seqE, q_ix, q_op, q_var, q_slot8, q_onD, q_lst, q_args1, q_args0, q_tup, q_allD0, q_allD1, q_addL, q_C, q_asLd, q_ixL]
    refine ⟨by rw [sz_eq]; simp; omega, ?_⟩
    rw [e1]
    simp only [q_asLd, q_seqT]
    refine lcW_map eLot (fun l => eFaL (lotO l)) ls (fun l hl Q q => ?_) (by rw [sz_eq]; omega) ?_
    · rw [q_bindN]
      show wCall _ _ [s0, some (.d (eApp B)), s2, some (.d (.str r.name)), s4, some (.d (.tuple (r.wins.map eWin))), s6, some (.d (.str t.name)), some (.d (.list X)), s9, s10, s11, s12, s13, s14, s15, some (.d (eLot l)), s17] _
      simp only [q_call, q_args1, q_args0, q_var, q_slot16, q_C]
      exact ⟨by simp, (false, l, false), rfl, by have := e4 l hl; show l.length ≤ 1000; omega, trivial, q⟩
    have e6 : ls.map (fun l => eFaL (lotO l)) = L.map eFaL := by rw [← e2, List.map_map]; rfl
    rw [e6]
    refine ⟨trivial, ?_⟩
    rw [sq_nx]
    show wSeq _ _ _ [s0, some (.d (eApp B)), s2, some (.d (.str r.name)), s4, some (.d (.tuple (r.wins.map eWin))), s6, some (.d (.str t.name)), some (.d (.list X)), s9, s10, s11, some (.d (.list (L.map eFaL))), s13, s14, s15, s16, s17]
    simp only [q_seq, q_set, q_call, q_args1, q_args0, q_var, q_slot1, q_slot3, q_slot7, q_C]
    refine ⟨by simp, (B, r.name, t.name, "o", r, t), rfl, ⟨GB.rol hr, GB.tab ht, fun w hw => GB.ok r hr w hw⟩, trivial, trivial, ?_⟩
    rw [sq_nx]
    show wSeq _ _ _ [s0, some (.d (eApp B)), s2, some (.d (.str r.name)), s4, some (.d (.tuple (r.wins.map eWin))), s6, some (.d (.str t.name)), some (.d (.list X)), s9, s10, s11, some (.d (.list (L.map eFaL))), some (.d (.tuple (L.map eFas))), s14, s15, s16, s17]
    simp only [q_seq, q_if, q_orT, q_notT, q_tru, q_isi, q_var, q_slot13, q_onD, tyD, Option.bind_some, kt4, q_truV, q_truB, Bool.not_true, q_opT, q_blt, q_args1, q_args0, q_one, q_asLd, q_lenT, q_slot12, q_lenL, q_ne, v_int, q_asB, List.length_map, beq_self_eq_true, q_nil, sq_nx]
    refine ⟨by simp, ?_⟩
    show wLc _ _ _ _ _ [s0, some (.d (eApp B)), s2, some (.d (.str r.name)), s4, some (.d (.tuple (r.wins.map eWin))), s6, some (.d (.str t.name)), some (.d (.list X)), s9, s10, s11, some (.d (.list (L.map eFaL))), some (.d (.tuple (L.map eFas))), s14, s15, s16, s17] _
    simp only [q_if, q_opT, q_blt, q_args1, q_args0, q_lc, q_rng1, q_var, q_slot12, q_one, q_asLd, q_lenL, q_onD, List.length_map]
    refine ⟨⟨by omega, by omega⟩, ?_⟩
    have er : rngD 0 ((L.length : Int)).toNat = (List.range L.length).map fun (i : Nat) => PyData.int (0 + (i : Int)) := rfl
    rw [er]
    refine lcW_filter (fun (i : Nat) => PyData.int (0 + (i : Int))) (fun _ => false) _ (fun i hi Q q => ?_) (by rw [sz_eq]; simp; omega) ?_
    · have hi : i < L.length := List.mem_range.mp hi
      rw [q_bindN]
      show wNotT _ [s0, some (.d (eApp B)), s2, some (.d (.str r.name)), s4, some (.d (.tuple (r.wins.map eWin))), s6, some (.d (.str t.name)), some (.d (.list X)), s9, s10, s11, some (.d (.list (L.map eFaL))), some (.d (.tuple (L.map eFas))), s14, s15, s16, some (.d (.int (0 + (i : Int))))] _
      have a1 : atI (L.map eFas) (0 + (i : Int)) = some (eFas L[i]) := by rw [Int.zero_add, DL.atI_nat (by simpa using hi)]; simp [hi]
      have a2 : atI (L.map eFaL) (0 + (i : Int)) = some (eFaL L[i]) := by rw [Int.zero_add, DL.atI_nat (by simpa using hi)]; simp [hi]
      simp only [q_notT, q_tru, q_call, q_args1, q_args0, q_ix, q_var, q_slot13, q_slot12, q_slot17, q_onD, q_asLd, q_ixT, q_ixL, a1, a2]
      refine ⟨by simp, L[i], rfl, by have := hL2 L[i] (List.getElem_mem hi); omega, trivial, ?_⟩
      exact q
    · have e0 : ((List.range L.length).filter fun _ => false) = [] := by simp
      rw [e0]
      simp only [q_one, q_asLd, List.map_nil, q_lenL, q_onD, q_C, q_gt, q_asB, List.length_nil]
      exact h _ _ _
  cases q : r.win t.name with
  | none =>
    refine step2 [] ⟨[], by simp, by show [] = seenL (r.win t.name) "o"; rw [q]; rfl, by simp, by simp, by simp⟩
  | some w =>
    have g := okw w q
    refine step2 [.tuple (w.lots.map eLot)] ⟨w.lots, by simp, by show _ = seenL (r.win t.name) "o"; rw [q]; rfl, g.two, g.lot, by simp⟩
end
end K85

set_option maxRecDepth 100000
set_option maxHeartbeats 1000000
namespace K85
open PySem L2 DL
section
variable {D : DEnds}
theorem w3_in {B : App} (GB : B.good) {r : Rol} (hr : r ∈ B.rols) : ∀ (ts : List Tbl) (s0 s2 s4 s6 s7 s8 s9 s10 s11 s12 s13 s14 s15 s16 s17 : Option DV), (∀ t ∈ ts, t ∈ B.tabs) →
    (∀ s7 s8 s11 s12 s13, D.nx [s0, some (.d (eApp B)), s2, some (.d (.str r.name)), s4, some (.d (.tuple (r.wins.map eWin))), s6, s7, s8, s9, s10, s11, s12, s13, s14, s15, s16, s17]) →
    loopW (.tp [7, 11]) b_w3 D (ts.map eTbl) [s0, some (.d (eApp B)), s2, some (.d (.str r.name)), s4, some (.d (.tuple (r.wins.map eWin))), s6, s7, s8, s9, s10, s11, s12, s13, s14, s15, s16, s17]
  | [], s0, s2, s4, s6, s7, s8, s9, s10, s11, s12, s13, s14, s15, s16, s17, _, h => h _ _ _ _ _
  | t :: ts, s0, s2, s4, s6, s7, s8, s9, s10, s11, s12, s13, s14, s15, s16, s17, ht, h => by
    rw [List.map_cons, q_loop1, eTbl, q_bindT, q_bindE1, q_bindE1, q_bindE0]
    refine w3_one GB hr (ht t (by simp)) _ _ _ _ _ _ _ _ _ _ _ _ _ _ fun s8 s12 s13 => ?_
    exact w3_in GB hr ts _ _ _ _ _ _ _ _ _ _ _ _ _ _ _ (fun t h => ht t (by simp [h])) h
theorem w3_out {B : App} (GB : B.good) : ∀ (rs : List Rol) (s0 s2 s3 s4 s5 s6 s7 s8 s9 s10 s11 s12 s13 s14 s15 s16 s17 : Option DV), (∀ r ∈ rs, r ∈ B.rols) →
    (∀ s3 s4 s5 s7 s8 s11 s12 s13, D.nx [s0, some (.d (eApp B)), s2, s3, s4, s5, s6, s7, s8, s9, s10, s11, s12, s13, s14, s15, s16, s17]) →
    loopW (.tp [3, 4, 5]) (wFor (wSeqI (wIx (wVar 1) (wC (.int 0)))) (.tp [7, 11]) b_w3) D (rs.map eRol) [s0, some (.d (eApp B)), s2, s3, s4, s5, s6, s7, s8, s9, s10, s11, s12, s13, s14, s15, s16, s17]
  | [], s0, s2, s3, s4, s5, s6, s7, s8, s9, s10, s11, s12, s13, s14, s15, s16, s17, _, h => h _ _ _ _ _ _ _ _
  | r :: rs, s0, s2, s3, s4, s5, s6, s7, s8, s9, s10, s11, s12, s13, s14, s15, s16, s17, hm, h => by
    have hr := hm r (by simp)
    rw [List.map_cons, q_loop1, eRol, q_bindT, q_bindE1, q_bindE1, q_bindE1, q_bindE0]
    show wFor _ _ _ _ [s0, some (.d (eApp B)), s2, some (.d (.str r.name)), some (.d (.tuple (r.badge.map .str))), some (.d (.tuple (r.wins.map eWin))), s6, s7, s8, s9, s10, s11, s12, s13, s14, s15, s16, s17]
    simp only [q_for, q_seqI, q_ix, q_var, q_slot1, q_C, q_onD, q_asLd, eApp, q_ixT, q_at0, q_seqT]
    refine w3_in GB hr B.tabs _ _ _ _ _ _ _ _ _ _ _ _ _ _ _ (fun t h => h) fun s7 s8 s11 s12 s13 => ?_
    exact w3_out GB rs _ _ _ _ _ _ _ _ _ _ _ _ _ _ _ _ _ (fun r h => hm r (by simp [h])) h
end
theorem fin__law_windows_right (xs : List DV) (R : DV → Prop) (h : sp__law_windows_right xs R) : w__law_windows_right { nx := fun _ => R (.d .none), rt := R } (startE 18 xs) := by
  obtain ⟨A, rfl, G, hR⟩ := h
  simp only at G hR
  have GB := G.trim
  have again := trimA_again (A := A) G.ok
  simp only [w__law_windows_right, startE, q_seq, q_own, q_args0, q_allD0, sq_nx]
  show wFor _ _ _ _ (some (.d (eApp A)) :: some (.d (eApp (trimA A))) :: some (.l []) :: none :: none :: none :: none :: none :: none :: none :: [none, none, none, none, none, none, none, none])
  simp only [q_for, q_seqI, q_ix, q_var, q_slot0, q_C, q_onD, q_asLd, eApp, q_ixT, q_at1, q_seqT]
  refine w1_out G A.rols [] _ _ _ _ _ _ _ _ _ (fun r h => h) (by have := G.rols; simp; omega) fun s3 s4 s5 s7 s8 s9 => ?_
  rw [List.nil_append]
  simp only [sq_nx, q_frz, q_slot2]
  show wSeq _ _ _ [some (.d (eApp A)), some (.d (eApp (trimA A))), some (.d (.list ((idlesA A).map eP))), s3, s4, s5, none, s7, s8, s9, none, none, none, none, none, none, none, none]
  simp only [q_seq, q_if, q_orT, q_notT, q_tru, q_call, q_args1, q_args0, q_var, q_slot0, q_blt, q_slot2]
  refine ⟨by simp, A, rfl, G.fit, trivial, ?_⟩
  refine ⟨sorts_pairs _, by simp, ?_⟩
  refine same_ok (d := eIdles (idlesA A)) (tup_idles G) ⟨trivial, ?_⟩
  simp only [q_truV, q_truB, Bool.not_true]
  refine ⟨by simp, A, rfl, ⟨by have := G.rols; omega, fun r hr => ⟨by have := G.wins r hr; omega, G.ok r hr⟩⟩, trivial, ?_⟩
  refine ⟨by simp, same_ok (tup_App GB) ⟨trivial, ?_⟩⟩
  simp only [q_truV, q_truB, Bool.not_true, q_nil, sq_nx]
  show wSeq _ _ _ [some (.d (eApp A)), some (.d (eApp (trimA A))), some (.d (.list ((idlesA A).map eP))), s3, s4, s5, none, s7, s8, s9, none, none, none, none, none, none, none, none]
  simp only [q_seq, q_for, q_seqI, q_tup, q_args1, q_args0, q_var, q_slot0, q_slot1, q_allD1, q_allD0, q_onD, q_seqT]
  rw [q_loop1, q_bindN]
  refine w2_one G _ _ _ _ _ _ _ _ _ _ _ _ _ _ _ _ _ fun s5 s10 => ?_
  rw [lp_nx, q_loop1, q_bindN]
  refine w2_one GB _ _ _ _ _ _ _ _ _ _ _ _ _ _ _ _ _ fun s5 s10 => ?_
  rw [lp_nx, q_loop0]
  simp only [sq_nx]
  show wSeq _ _ _ [some (.d (eApp A)), some (.d (eApp (trimA A))), some (.d (.list ((idlesA A).map eP))), s3, s4, s5, some (.d (eApp (trimA A))), s7, s8, s9, s10, none, none, none, none, none, none, none]
  simp only [q_seq, q_if, q_orT, q_notT, q_tru, q_call, q_args1, q_args0, q_var, q_slot1, q_tup, q_allD0]
  refine ⟨by simp, trimA A, rfl, ⟨by have := GB.rols; omega, fun r hr => ⟨by have := GB.wins r hr; omega, GB.ok r hr⟩⟩, trivial, ?_⟩
  show (noLs _ ∧ sp__law_same [.d (eApp (trimA (trimA A))), _] _)
  rw [again]
  refine ⟨by simp, same_ok (tup_App GB) ⟨trivial, ?_⟩⟩
  simp only [q_truV, q_truB, Bool.not_true]
  refine ⟨by simp, trimA A, rfl, GB.fit, trivial, ?_⟩
  show (noLs _ ∧ sp__law_same [.d (eIdles (idlesA (trimA A))), _] _)
  rw [idles_trim G.ok]
  have e0 : eIdles [] = .tuple [] := by simp [eIdles, srt]
  rw [e0]
  refine ⟨by simp, same_ok (d := .tuple []) (by simp [tupD, tupAll, PyData.depth, PyData.depthAll]) ⟨trivial, ?_⟩⟩
  simp only [q_truV, q_truB, Bool.not_true, q_nil, sq_nx]
  show wSeq _ _ _ [some (.d (eApp A)), some (.d (eApp (trimA A))), some (.d (.list ((idlesA A).map eP))), s3, s4, s5, some (.d (eApp (trimA A))), s7, s8, s9, s10, none, none, none, none, none, none, none]
  simp only [q_seq, q_for, q_seqI, q_ix, q_var, q_slot1, q_C, q_onD, q_asLd]
  show ixF (eApp (trimA A)) _ _
  simp only [eApp, q_ixT, q_at1, q_seqT]
  refine w3_out GB (trimA A).rols _ _ _ _ _ _ _ _ _ _ _ _ _ _ _ _ _ (fun r h => h) fun s3 s4 s5 s7 s8 s11 s12 s13 => ?_
  exact hR
end K85

set_option maxRecDepth 100000
set_option maxHeartbeats 1000000
namespace K85
open PySem L2 DL
/-! ### _law_asks_right -/
abbrev sp__law_asks_right : SpD := spV (α := App) (fun A => [.d (eApp A), .d (eApp (trimA A))]) (fun A => A.good) (fun _ => .bool true)
/-! _law_asks_right(app, less): slots 0 app, 1 less, 2 ask, 3 lots, 4 role, 5 due, 6 window; calls _law_same, _law_unseen, tells_nothing -/
def w__law_asks_right : SW :=
    (wSeq (wFor (wSeqI (wIx (wVar 0) (wC (.int 2)))) (.nm 2)
      (wSeq (wSet 3 (wLst []))
      (wSeq (wFor (wSeqI (wIx (wVar 0) (wC (.int 1)))) (.nm 4)
        (wIf (wOpT eqF (wIx (wVar 4) (wC (.int 0))) (wIx (wVar 2) (wC (.int 1)))) (wSetLc 3 (wLc (wSeqE (wIx (wVar 4) (wC (.int 2)))) (.nm 6) (wOpT eqF (wIx (wVar 6) (wC (.int 0))) (wIx (wIx (wVar 2) (wC (.int 3))) (wC (.int 0)))) (wIx (wVar 6) (wC (.int 1))) [6])) wNil))
      (wSeq (wSet 5 (wAnd (wOp gtF (wBlt (one lenF) [(wVar 3)]) (wC (.int 0))) (wNotV (wCall sp__law_unseen [(wIx (wVar 3) (wC (.int 0)))]))))
      (wIf (wOrT (wNotT (wTru (wCall sp__law_same [(wCall sp_tells_nothing [(wVar 0), (wIx (wVar 2) (wC (.int 0)))]), (wVar 5)]))) (wNotT (wTru (wCall sp__law_same [(wCall sp_tells_nothing [(wVar 1), (wIx (wVar 2) (wC (.int 0)))]), (wVar 5)])))) (wRet (wC (.bool false))) wNil)))))
    (wRet (wC (.bool true))))
theorem trim_win {r : Rol} (nd : r.nd) (ok : ∀ w ∈ r.wins, w.ok) (n : Str) : (trimR r).win n = (r.win n).bind trimW := by
  unfold Rol.win trimR
  unfold Rol.nd at nd
  simp only
  generalize r.wins = ws at nd ok
  induction ws with
  | nil => rfl
  | cons w ws ih =>
    rw [List.map_cons, List.nodup_cons] at nd
    have ih := ih nd.2 fun w hw => ok w (by simp [hw])
    rw [List.filterMap_cons, List.find?_cons]
    cases q : trimW w with
    | none =>
      simp only
      cases z : (w.tbl == n) with
      | false => exact ih
      | true =>
        have ze : w.tbl = n := eq_of_beq z
        simp only [Option.bind_some, q]
        rw [List.find?_eq_none]
        intro v hv e
        have e : v.tbl = n := eq_of_beq (by simpa using e)
        have : v.tbl ∈ (ws.filterMap trimW).map (·.tbl) := List.mem_map.mpr ⟨v, hv, rfl⟩
        have := (trimmed_tbls ws fun w hw => ok w (by simp [hw])).subset this
        rw [e, ← ze] at this
        exact nd.1 this
    | some w' =>
      have ew := (trimW_some (ok w (by simp)) q).2.2.2.1
      simp only
      rw [List.find?_cons, ew]
      cases z : (w.tbl == n) with
      | false => exact ih
      | true => simp only [Option.bind_some, q]
theorem unseen_trim {r : Rol} (nd : r.nd) (ok : ∀ w ∈ r.wins, w.ok) (n : Str) : unseenB ((trimR r).win n) = unseenB (r.win n) := by
  rw [trim_win nd ok]
  cases q : r.win n with
  | none => rfl
  | some w =>
    have g := ok w (win_mem q)
    rw [Option.bind_some]
    cases z : trimW w with
    | some w' => exact (trimW_some g z).2.2.2.2.2.2
    | none =>
      rw [unseen_none]
      have : idleB w = true := by
        unfold trimW at z
        cases y : idleB w with
        | true => rfl
        | false => rw [y] at z; cases z
      exact (unseen_idle g this).symm
def lotsD (o : Option Win) : List PyData := match o with
  | some w => [.tuple (w.lots.map eLot)]
  | none => []
section
variable {D : DEnds} {A : App} (G : A.good)
include G
theorem ask_in (a : Ask) : ∀ (rs : List Rol) (X : List PyData) (s0 s1 s4 s5 s6 : Option DV), (∀ r ∈ rs, r ∈ A.rols) → (rs.map (·.name)).Nodup →
    (∀ s4, D.nx [s0, s1, some (.d (eAsk a)), some (.d (.list (match rs.find? fun r => r.name == a.role with
      | some r => lotsD (r.win a.tbl)
      | none => X))), s4, s5, s6]) →
    loopW (.nm 4) (wIf (wOpT eqF (wIx (wVar 4) (wC (.int 0))) (wIx (wVar 2) (wC (.int 1)))) (wSetLc 3 (wLc (wSeqE (wIx (wVar 4) (wC (.int 2)))) (.nm 6) (wOpT eqF (wIx (wVar 6) (wC (.int 0))) (wIx (wIx (wVar 2) (wC (.int 3))) (wC (.int 0)))) (wIx (wVar 6) (wC (.int 1))) [6])) wNil)
      D (rs.map eRol) [s0, s1, some (.d (eAsk a)), some (.d (.list X)), s4, s5, s6]
  | [], X, s0, s1, s4, s5, s6, _, _, h => h s4
  | r :: rs, X, s0, s1, s4, s5, s6, hm, nd, h => by
    rw [List.map_cons, List.nodup_cons] at nd
    have hr := hm r (by simp)
    have gw := G.wins r hr
    rw [List.map_cons, q_loop1, q_bindN]
    show wIf _ _ _ _ [s0, s1, some (.d (eAsk a)), some (.d (.list X)), some (.d (eRol r)), s5, s6]
    simp only [q_if, q_opT, q_ix, q_var, q_slot4, q_slot2, q_C, q_onD, q_asLd, eRol, eAsk, q_ixT, q_at0, q_at1, q_eq, v_str, q_asB]
    refine ⟨by simp, ?_⟩
    cases q : (r.name == a.role) with
    | false =>
      rw [List.find?_cons, q] at h
      exact ask_in a rs X _ _ _ _ _ (fun r h => hm r (by simp [h])) nd.2 h
    | true =>
      have qe : r.name = a.role := eq_of_beq q
      rw [List.find?_cons, q] at h
      have hno : (rs.find? fun r => r.name == a.role) = none := by
        rw [List.find?_eq_none]
        intro v hv e
        exact nd.1 (List.mem_map.mpr ⟨v, hv, (eq_of_beq (by simpa using e)).trans qe.symm⟩)
      simp only [q_setLc, q_set, q_lc, q_seqE, q_ix, q_var, q_slot4, q_C, q_onD, q_asLd, q_ixT, q_at2, q_seqT]
      refine lcW_fm eWin (fun w => if w.tbl == a.tbl then some (PyData.tuple (w.lots.map eLot)) else none) r.wins [] (fun w hw Q hq => ?_) (by rw [sz_eq]; simp; omega) ?_
      · rw [q_bindN]
        show wOpT _ _ _ [s0, s1, some (.d (eAsk a)), some (.d (.list X)), some (.d (eRol r)), s5, some (.d (eWin w))] _
        simp only [q_opT, q_ix, q_var, q_slot6, q_slot2, q_C, q_onD, q_asLd, eWin, eAsk, q_ixT, q_at0, q_at1, q_at3, q_eq, v_str, q_asB]
        refine ⟨by simp, ?_⟩
        cases z : (w.tbl == a.tbl) with
        | true => simp only [z] at hq ⊢; exact hq
        | false => simp only [z] at hq ⊢; exact hq
      · rw [wins_filter (G.wnd r hr), List.nil_append]
        refine ⟨trivial, ?_⟩
        refine ask_in a rs _ _ _ _ _ _ (fun r h => hm r (by simp [h])) nd.2 ?_
        rw [hno]
        exact h
theorem ask_out : ∀ (as : List Ask) (s3 s4 s5 s6 : Option DV), (∀ a ∈ as, a ∈ A.asks) → (∀ s2 s3 s4 s5, D.nx [some (.d (eApp A)), some (.d (eApp (trimA A))), s2, s3, s4, s5, s6]) → ∀ s2,
    loopW (.nm 2) (wSeq (wSet 3 (wLst []))
      (wSeq (wFor (wSeqI (wIx (wVar 0) (wC (.int 1)))) (.nm 4)
        (wIf (wOpT eqF (wIx (wVar 4) (wC (.int 0))) (wIx (wVar 2) (wC (.int 1)))) (wSetLc 3 (wLc (wSeqE (wIx (wVar 4) (wC (.int 2)))) (.nm 6) (wOpT eqF (wIx (wVar 6) (wC (.int 0))) (wIx (wIx (wVar 2) (wC (.int 3))) (wC (.int 0)))) (wIx (wVar 6) (wC (.int 1))) [6])) wNil))
      (wSeq (wSet 5 (wAnd (wOp gtF (wBlt (one lenF) [(wVar 3)]) (wC (.int 0))) (wNotV (wCall sp__law_unseen [(wIx (wVar 3) (wC (.int 0)))]))))
      (wIf (wOrT (wNotT (wTru (wCall sp__law_same [(wCall sp_tells_nothing [(wVar 0), (wIx (wVar 2) (wC (.int 0)))]), (wVar 5)]))) (wNotT (wTru (wCall sp__law_same [(wCall sp_tells_nothing [(wVar 1), (wIx (wVar 2) (wC (.int 0)))]), (wVar 5)])))) (wRet (wC (.bool false))) wNil))))
      D (as.map eAsk) [some (.d (eApp A)), some (.d (eApp (trimA A))), s2, s3, s4, s5, s6]
  | [], s3, s4, s5, s6, _, h, s2 => h _ _ _ _
  | a :: as, s3, s4, s5, s6, hm, h, s2 => by
    have ha := hm a (by simp)
    obtain ⟨r, hr, er⟩ := G.arol a ha
    obtain ⟨t, ht, et⟩ := G.atab a ha
    have gr := G.rol hr
    have gt := G.tab ht
    rw [er] at gr
    rw [et] at gt
    have GB := G.trim
    have gr2 : (trimA A).rol a.role = some (trimR r) := by
      have := GB.rol (r := trimR r) (List.mem_map.mpr ⟨r, hr, rfl⟩)
      rw [← er]
      exact this
    rw [List.map_cons, q_loop1, q_bindN]
    show wSeq _ _ _ [some (.d (eApp A)), some (.d (eApp (trimA A))), some (.d (eAsk a)), s3, s4, s5, s6]
    simp only [q_seq, q_set, q_lst, q_args0, q_allD0, sq_nx]
    refine ⟨trivial, ?_⟩
    show wFor _ _ _ _ [some (.d (eApp A)), some (.d (eApp (trimA A))), some (.d (eAsk a)), some (.d (.list [])), s4, s5, s6]
    simp only [q_for, q_seqI, q_ix, q_var, q_slot0, q_C, q_onD, q_asLd]
    show ixF (eApp A) _ _
    simp only [eApp, q_ixT, q_at1, q_seqT]
    refine ask_in G a A.rols [] _ _ _ _ _ (fun r h => h) G.rnd fun s4 => ?_
    have fr : (A.rols.find? fun r => r.name == a.role) = some r := gr
    rw [fr]
    simp only [sq_nx]
    have fin : ∀ b : Bool, b = !unseenB (r.win a.tbl) → (wIf (wOrT (wNotT (wTru (wCall sp__law_same [(wCall sp_tells_nothing [(wVar 0), (wIx (wVar 2) (wC (.int 0)))]), (wVar 5)]))) (wNotT (wTru (wCall sp__law_same [(wCall sp_tells_nothing [(wVar 1), (wIx (wVar 2) (wC (.int 0)))]), (wVar 5)])))) (wRet (wC (.bool false))) wNil)
        (D.lp (loopW (.nm 2) (wSeq (wSet 3 (wLst []))
      (wSeq (wFor (wSeqI (wIx (wVar 0) (wC (.int 1)))) (.nm 4)
        (wIf (wOpT eqF (wIx (wVar 4) (wC (.int 0))) (wIx (wVar 2) (wC (.int 1)))) (wSetLc 3 (wLc (wSeqE (wIx (wVar 4) (wC (.int 2)))) (.nm 6) (wOpT eqF (wIx (wVar 6) (wC (.int 0))) (wIx (wIx (wVar 2) (wC (.int 3))) (wC (.int 0)))) (wIx (wVar 6) (wC (.int 1))) [6])) wNil))
      (wSeq (wSet 5 (wAnd (wOp gtF (wBlt (one lenF) [(wVar 3)]) (wC (.int 0))) (wNotV (wCall sp__law_unseen [(wIx (wVar 3) (wC (.int 0)))]))))
      (wIf (wOrT (wNotT (wTru (wCall sp__law_same [(wCall sp_tells_nothing [(wVar 0), (wIx (wVar 2) (wC (.int 0)))]), (wVar 5)]))) (wNotT (wTru (wCall sp__law_same [(wCall sp_tells_nothing [(wVar 1), (wIx (wVar 2) (wC (.int 0)))]), (wVar 5)])))) (wRet (wC (.bool false))) wNil)))) D (as.map eAsk)))
        [some (.d (eApp A)), some (.d (eApp (trimA A))), some (.d (eAsk a)), some (.d (.list (lotsD (r.win a.tbl)))), s4, some (.d (.bool b)), s6] := by
      intro b hb
      subst hb
      have sb : ∀ b : Bool, tupD (.bool b) = true ∧ (PyData.bool b).depth ≤ 12 := fun b => by simp [tupD]
      simp only [q_if, q_orT, q_notT, q_tru, q_call, q_args1, q_args0, q_var, q_slot0, q_ix, q_slot2, q_C, q_onD, q_asLd, eAsk, q_ixT, q_at0, q_slot5]
      refine ⟨by simp, (A, a.name, a, r, t), rfl, ⟨G.ask ha, gr, gt, fun w hw => G.ok r hr w hw⟩, trivial, ?_⟩
      refine ⟨by simp, same_ok (d := .bool (!unseenB (r.win a.tbl))) (sb _) ⟨trivial, ?_⟩⟩
      simp only [q_truV, q_truB, Bool.not_true, q_slot1]
      refine ⟨by simp, (trimA A, a.name, a, trimR r, t), rfl, ⟨GB.ask ha, gr2, gt, fun w hw => GB.ok (trimR r) (List.mem_map.mpr ⟨r, hr, rfl⟩) w hw⟩, trivial, ?_⟩
      have e : (!(waysL ((trimR r).win a.tbl)).any canB) = !unseenB (r.win a.tbl) := by
        have := unseen_trim (G.wnd r hr) (G.ok r hr) a.tbl
        rw [← this]; rfl
      show (noLs _ ∧ sp__law_same [.d (.bool (!(waysL ((trimR r).win a.tbl)).any canB)), _] _)
      rw [e]
      refine ⟨by simp, same_ok (d := .bool (!unseenB (r.win a.tbl))) (sb _) ⟨trivial, ?_⟩⟩
      simp only [q_truV, q_truB, Bool.not_true, q_nil, lp_nx]
      exact ask_out as _ _ _ s6 (fun a h => hm a (by simp [h])) h _
    show wSeq _ _ _ [some (.d (eApp A)), some (.d (eApp (trimA A))), some (.d (eAsk a)), some (.d (.list (lotsD (r.win a.tbl)))), s4, s5, s6]
    simp only [q_seq, q_set, q_and, q_op, q_blt, q_args1, q_args0, q_var, q_slot3, q_one, q_asLd, q_lenL, q_onD, q_C, q_gt, q_asB]
    cases q : r.win a.tbl with
    | none =>
      rw [q] at fin
      exact ⟨trivial, fin false (by rw [unseen_none]; rfl)⟩
    | some w =>
      rw [q] at fin
      have g := G.ok r hr w (win_mem q)
      show wNotV _ [some (.d (eApp A)), some (.d (eApp (trimA A))), some (.d (eAsk a)), some (.d (.list (lotsD (some w)))), s4, s5, s6] _
      simp only [q_notV, q_call, q_args1, q_args0, q_ix, q_var, q_slot3, q_C, q_onD, q_asLd, lotsD, q_ixL, q_at0]
      refine ⟨by simp, w, rfl, g, trivial, ?_⟩
      exact ⟨trivial, fin (!unseenB (some w)) rfl⟩
end
theorem fin__law_asks_right (xs : List DV) (R : DV → Prop) (h : sp__law_asks_right xs R) : w__law_asks_right { nx := fun _ => R (.d .none), rt := R } (startE 7 xs) := by
  obtain ⟨A, rfl, G, hR⟩ := h
  simp only at G hR
  simp only [w__law_asks_right, startE, q_seq]
  show wFor _ _ _ _ [some (.d (eApp A)), some (.d (eApp (trimA A))), none, none, none, none, none]
  simp only [q_for, q_seqI, q_ix, q_var, q_slot0, q_C, q_onD, q_asLd]
  show ixF (eApp A) _ _
  simp only [eApp, q_ixT, q_at2, q_seqT]
  exact ask_out G A.asks _ _ _ _ (fun a h => h) (fun _ _ _ _ => hR) _
end K85

set_option maxRecDepth 100000
set_option maxHeartbeats 1000000
namespace K85
open PySem L2 DL
/-! ### draws -/
abbrev sp__law_bale (b : Addr) : SpD := fun xs Q => ∃ m : Int, xs = [.o (.ref b), .d (.int m)] ∧ 0 < m ∧ ∀ r : Nat, (r : Int) < m → Q (.d (.int r))
abbrev sp__law_door (b : Addr) : SpD := fun xs Q => ∃ p m : Int, xs = [.o (.ref b), .d (.int p), .d (.int m)] ∧ 0 ≤ p ∧ p < 8 ∧ 0 < m ∧ ∀ r : Nat, (r : Int) < m → Q (.d (.int r))
section
variable {α β : Type} {g : Tg}
theorem lcW_nd {we : EW} (enc : α → PyData) (p : β → Prop) (f : β → PyData) {en : En} {k : List PyData → Prop} : ∀ (l : List α) (acc : List PyData),
    (∀ a ∈ l, ∀ Q : PyData → Prop, (∀ x, p x → Q (f x)) → match g.bind (enc a) en with
      | some en' => we en' fun y => onD y fun d => Q d
      | none => False) → acc.length + l.length ≤ sizeLine → (∀ xs : List β, xs.length = l.length → (∀ x ∈ xs, p x) → k (acc ++ xs.map f)) → lcW g wYes we (l.map enc) en acc k
  | [], acc, _, _, hk => by simpa [lcW] using hk [] rfl (by simp)
  | a :: l, acc, h, hl, hk => by
    have hl' : acc.length + (l.length + 1) ≤ sizeLine := hl
    have h1 := h a (by simp) (fun d => acc.length < sizeLine ∧ lcW g wYes we (l.map enc) en (acc ++ [d]) k) fun x hx =>
      ⟨by omega, lcW_nd enc p f l (acc ++ [f x]) (fun b hb => h b (by simp [hb])) (by simp only [List.length_append, List.length_cons, List.length_nil]; omega) fun xs hxs hp => by
        have := hk (x :: xs) (by simp [hxs]) (by
          intro y hy
          rcases List.mem_cons.mp hy with rfl | hy
          · exact hx
          · exact hp y hy)
        simpa using this⟩
    rw [List.map_cons]
    unfold lcW
    cases e : g.bind (enc a) en with
    | none => rw [e] at h1; exact h1.elim
    | some en' => rw [e] at h1; exact h1
theorem lcW_sub {wt : TW} {we : EW} (enc : α → PyData) {en : En} {k : List PyData → Prop} : ∀ (l : List α) (acc : List PyData),
    (∀ a ∈ l, ∀ Q : Option PyData → Prop, Q (some (enc a)) → Q none → match g.bind (enc a) en with
      | some en' => wt en' fun b => match b with
        | true => we en' fun y => onD y fun d => Q (some d)
        | false => Q none
      | none => False) → acc.length + l.length ≤ sizeLine → (∀ xs : List α, xs.Sublist l → k (acc ++ xs.map enc)) → lcW g wt we (l.map enc) en acc k
  | [], acc, _, _, hk => by simpa [lcW] using hk [] (List.Sublist.refl _)
  | a :: l, acc, h, hl, hk => by
    have hl' : acc.length + (l.length + 1) ≤ sizeLine := hl
    exact h a (by simp) (fun o => match o with
      | some d => acc.length < sizeLine ∧ lcW g wt we (l.map enc) en (acc ++ [d]) k
      | none => lcW g wt we (l.map enc) en acc k)
      ⟨by omega, lcW_sub enc l (acc ++ [enc a]) (fun b hb => h b (by simp [hb])) (by simp only [List.length_append, List.length_cons, List.length_nil]; omega) fun xs hs => by
        have := hk (a :: xs) (List.Sublist.cons_cons _ hs)
        simpa using this⟩
      (lcW_sub enc l acc (fun b hb => h b (by simp [hb])) (by omega) fun xs hs => hk xs (List.Sublist.cons _ hs))
end
@[simp] theorem q_pow {i j : Int} {Q : PyData → Prop} : powF (.int i) (.int j) Q = (CPow i j ∧ Q (.int (i ^ j.toNat))) := rfl
/-! ### looks, lots -/
def Lk.fit (nf nb : Nat) (k : Lk) : Prop := k.fld < nf ∧ k.tm.fit nf nb
abbrev sp__law_look (b : Addr) : SpD := fun xs Q => ∃ nf nb : Nat, xs = [.o (.ref b), .d (.int nf), .d (.int nb)] ∧ 0 < nf ∧ ∀ k : Lk, k.fit nf nb → Q (.d (eLk k))
/-! _law_look(barn, fields, badge): slots 0 barn, 1 fields, 2 badge, 3 field, 4 term, 5 kind; calls _law_bale, _law_door -/
def w__law_look (b : Addr) : SW :=
    (wSeq (wSet 3 (wCall (sp__law_bale b) [(wVar 0), (wVar 1)]))
    (wSeq (wSet 4 (wTup [(wC (.str "c")), (wIx (wLst [(wC (.int 1)), (wC (.int 2)), (wOp powF (wC (.int 10)) (wC (.int 9))), (wNeg (wC (.int 3)))]) (wCall (sp__law_bale b) [(wVar 0), (wC (.int 4))]))]))
    (wSeq (wSet 5 (wCall (sp__law_door b) [(wVar 0), (wC (.int 0)), (wC (.int 4))]))
    (wSeq (wIf (wAndT (wOpT eqF (wVar 5) (wC (.int 0))) (wOpT gtF (wVar 1) (wC (.int 1)))) (wSet 4 (wTup [(wC (.str "f")), (wOp modF (wOp addF (wOp addF (wVar 3) (wC (.int 1))) (wCall (sp__law_bale b) [(wVar 0), (wOp subF (wVar 1) (wC (.int 1)))])) (wVar 1))])) wNil)
    (wSeq (wIf (wAndT (wOpT gtF (wVar 5) (wC (.int 1))) (wOpT gtF (wVar 2) (wC (.int 0)))) (wSet 4 (wTup [(wC (.str "b")), (wCall (sp__law_bale b) [(wVar 0), (wVar 2)])])) wNil)
    (wRet (wTup [(wIx (wTup [(wC (.str "=")), (wC (.str "!"))]) (wOp fdivF (wCall (sp__law_door b) [(wVar 0), (wC (.int 1)), (wC (.int 3))]) (wC (.int 2)))), (wVar 3), (wVar 4)])))))))
theorem fin__law_look (b : Addr) (xs : List DV) (R : DV → Prop) (h : sp__law_look b xs R) : w__law_look b { nx := fun _ => R (.d .none), rt := R } (startE 6 xs) := by
  obtain ⟨nf, nb, rfl, hf, hR⟩ := h
  have last : ∀ (f : Nat) (t : Tm) (s5 : Option DV), f < nf → t.fit nf nb →
      (wRet (wTup [(wIx (wTup [(wC (.str "=")), (wC (.str "!"))]) (wOp fdivF (wCall (sp__law_door b) [(wVar 0), (wC (.int 1)), (wC (.int 3))]) (wC (.int 2)))), (wVar 3), (wVar 4)])) { nx := fun _ => R (.d .none), rt := R }
        [some (.o (.ref b)), some (.d (.int nf)), some (.d (.int nb)), some (.d (.int f)), some (.d (eTm t)), s5] := by
    intro f t s5 h1 h2
    simp only [q_ret, q_tup, q_args1, q_args0, q_ix, q_C, q_allD1, q_allD0, q_op, q_call, q_var, q_slot0]
    refine ⟨by simp, 1, 3, rfl, by omega, by omega, by omega, fun r hr => ⟨trivial, ?_⟩⟩
    simp only [q_onD, q_fdiv, q_asLd, q_ixT]
    refine ⟨⟨by omega, by omega⟩, ?_⟩
    have : r = 0 ∨ r = 1 ∨ r = 2 := by omega
    rcases this with rfl | rfl | rfl
    · exact hR ⟨true, f, t⟩ ⟨h1, h2⟩
    · exact hR ⟨true, f, t⟩ ⟨h1, h2⟩
    · exact hR ⟨false, f, t⟩ ⟨h1, h2⟩
  have mid : ∀ (f : Nat) (t : Tm) (kd : Nat), f < nf → t.fit nf nb →
      (wSeq (wIf (wAndT (wOpT gtF (wVar 5) (wC (.int 1))) (wOpT gtF (wVar 2) (wC (.int 0)))) (wSet 4 (wTup [(wC (.str "b")), (wCall (sp__law_bale b) [(wVar 0), (wVar 2)])])) wNil)
      (wRet (wTup [(wIx (wTup [(wC (.str "=")), (wC (.str "!"))]) (wOp fdivF (wCall (sp__law_door b) [(wVar 0), (wC (.int 1)), (wC (.int 3))]) (wC (.int 2)))), (wVar 3), (wVar 4)]))) { nx := fun _ => R (.d .none), rt := R }
        [some (.o (.ref b)), some (.d (.int nf)), some (.d (.int nb)), some (.d (.int f)), some (.d (eTm t)), some (.d (.int kd))] := by
    intro f t kd h1 h2
    simp only [q_seq, q_if, q_andT, q_opT, q_var, q_slot5, q_slot2, q_C, q_onD, q_gt, q_asB]
    cases z1 : decide ((1 : Int) < (kd : Int)) with
    | false => exact last f t _ h1 h2
    | true =>
      cases z2 : decide ((0 : Int) < (nb : Int)) with
      | false => exact last f t _ h1 h2
      | true =>
        have hb : (0 : Int) < nb := of_decide_eq_true z2
        simp only [q_set, q_tup, q_args1, q_args0, q_C, q_call, q_var, q_slot0, q_slot2]
        refine ⟨by simp, nb, rfl, hb, fun r hr => ⟨trivial, ?_⟩⟩
        refine ⟨trivial, ?_⟩
        exact last f (.b r) _ h1 (by show r < nb; omega)
  simp only [w__law_look, startE, q_seq, q_set]
  show wCall _ _ [some (.o (.ref b)), some (.d (.int nf)), some (.d (.int nb)), none, none, none] _
  simp only [q_call, q_args1, q_args0, q_var, q_slot0, q_slot1]
  refine ⟨by simp, nf, rfl, by omega, fun f hf1 => ⟨trivial, trivial, ?_⟩⟩
  have hf2 : f < nf := by omega
  rw [sq_nx]
  show wSeq _ _ _ [some (.o (.ref b)), some (.d (.int nf)), some (.d (.int nb)), some (.d (.int f)), none, none]
  simp only [q_seq, q_set, q_tup, q_args1, q_args0, q_C, q_ix, q_lst, q_op, q_neg, q_onD, q_pow, q_negF, q_allD1, q_allD0, q_call, q_var, q_slot0]
  refine ⟨⟨by omega, by omega, by decide⟩, by simp, 4, rfl, by omega, fun r hr => ⟨trivial, ?_⟩⟩
  have hz : ∃ z : Int, atI [PyData.int 1, .int 2, .int (10 ^ (9 : Int).toNat), .int (-3)] (r : Int) = some (.int z) := by
    have : r = 0 ∨ r = 1 ∨ r = 2 ∨ r = 3 := by omega
    rcases this with rfl | rfl | rfl | rfl
    · exact ⟨_, q_at0⟩
    · exact ⟨_, q_at1⟩
    · exact ⟨_, q_at2⟩
    · exact ⟨_, q_at3⟩
  obtain ⟨z, hz⟩ := hz
  simp only [q_asLd, q_onD, q_ixL, hz, q_allD1, q_allD0]
  refine ⟨trivial, ?_⟩
  rw [sq_nx]
  show wSeq _ _ _ [some (.o (.ref b)), some (.d (.int nf)), some (.d (.int nb)), some (.d (.int f)), some (.d (eTm (.c z))), none]
  simp only [q_seq, q_set, q_call, q_args1, q_args0, q_C, q_var, q_slot0]
  refine ⟨by simp, 0, 4, rfl, by omega, by omega, by omega, fun kd hk => ⟨trivial, trivial, ?_⟩⟩
  rw [sq_nx]
  show wSeq _ _ _ [some (.o (.ref b)), some (.d (.int nf)), some (.d (.int nb)), some (.d (.int f)), some (.d (eTm (.c z))), some (.d (.int kd))]
  simp only [q_seq, q_if, q_andT, q_opT, q_var, q_slot5, q_slot1, q_C, q_onD, q_gt, q_eq, v_int, q_asB]
  refine ⟨by simp, ?_⟩
  cases z1 : ((kd : Int) == 0) with
  | false => exact mid f (.c z) kd hf2 trivial
  | true =>
    cases z2 : decide ((1 : Int) < (nf : Int)) with
    | false => exact mid f (.c z) kd hf2 trivial
    | true =>
      have hb : (1 : Int) < nf := of_decide_eq_true z2
      simp only [q_set, q_tup, q_args1, q_args0, q_C, q_op, q_call, q_var, q_slot0, q_slot1, q_slot3, q_onD, q_addI, q_sub]
      refine ⟨by simp, (nf : Int) - 1, rfl, by omega, fun g hg => ⟨trivial, ?_⟩⟩
      simp only [q_onD, q_addI, q_mod, q_allD1, q_allD0]
      refine ⟨by omega, trivial, ?_⟩
      have e : ((f : Int) + 1 + g) % nf = (((f + 1 + g) % nf : Nat) : Int) := by rw [Int.natCast_emod, Int.natCast_add, Int.natCast_add]; rfl
      rw [e]
      exact mid f (.f ((f + 1 + g) % nf)) kd hf2 (Nat.mod_lt _ hf)
def Lot.fit (nf nb : Nat) (l : Lot) : Prop := ∀ k ∈ l, Lk.fit nf nb k
abbrev sp__law_lot (b : Addr) : SpD := fun xs Q => ∃ nf nb m : Nat, xs = [.o (.ref b), .d (.int nf), .d (.int nb), .d (.int m)] ∧ 0 < nf ∧ m ≤ 3 ∧ ∀ l : Lot, l.length = m → Lot.fit nf nb l → Q (.d (eLot l))
/-! _law_lot(barn, fields, badge, many): slots 0 barn, 1 fields, 2 badge, 3 many, 4 look; calls _law_look -/
def w__law_lot (b : Addr) : SW :=
    (wRet (wBlt (one tupF) [(wLc (wRng1 (wVar 3)) (.nm 4) wYes (wCall (sp__law_look b) [(wVar 0), (wVar 1), (wVar 2)]) [4])]))
theorem fin__law_lot (b : Addr) (xs : List DV) (R : DV → Prop) (h : sp__law_lot b xs R) : w__law_lot b { nx := fun _ => R (.d .none), rt := R } (startE 5 xs) := by
  obtain ⟨nf, nb, m, rfl, hf, hm, hR⟩ := h
  simp only [w__law_lot, startE, q_ret]
  show wBlt _ _ [some (.o (.ref b)), some (.d (.int nf)), some (.d (.int nb)), some (.d (.int m)), none] _
  simp only [q_blt, q_args1, q_args0, q_lc, q_rng1, q_var, q_slot3, q_onD]
  refine ⟨⟨by omega, by omega⟩, ?_⟩
  have er : rngD 0 ((m : Int)).toNat = (List.range m).map fun (i : Nat) => PyData.int (0 + (i : Int)) := rfl
  rw [er]
  refine lcW_nd (fun (i : Nat) => PyData.int (0 + (i : Int))) (Lk.fit nf nb) eLk _ [] (fun i hi Q q => ?_) (by rw [sz_eq]; simp; omega) fun ks hks hp => ?_
  · rw [q_bindN]
    show wCall _ _ [some (.o (.ref b)), some (.d (.int nf)), some (.d (.int nb)), some (.d (.int m)), some (.d (.int (0 + (i : Int))))] _
    simp only [q_call, q_args1, q_args0, q_var, q_slot0, q_slot1, q_slot2]
    exact ⟨by simp, nf, nb, rfl, hf, fun k hk => ⟨trivial, q k hk⟩⟩
  · simp only [List.nil_append, q_one, q_asLd, q_tupL]
    exact hR ks (by simpa using hks) hp
end K85

set_option maxRecDepth 100000
set_option maxHeartbeats 1000000
namespace K85
open PySem L2 DL
theorem cut_head (xs : List PyData) (n : Nat) : cutD xs none (some (n : Int)) = xs.take n := by
  unfold cutD
  rw [HT.sIx_nat, HT.sIx_none, List.drop_zero, Nat.sub_zero]
  rcases Nat.le_total n xs.length with h | h
  · rw [Nat.min_eq_left h]
  · rw [Nat.min_eq_right h, List.take_length, List.take_of_length_le h]
theorem min_int (a b : Int) (Q : PyData → Prop) (h : Q (.int (if b < a then b else a))) : minF (.int a) (.int b) Q := by
  refine ⟨⟨⟨fun x hx y hy => ?_, fun x hx => ?_⟩, by simp [PyData.depthAll]⟩, ?_⟩
  · simp at hx hy
    rcases hx with rfl | rfl <;> rcases hy with rfl | rfl <;> simp [PySem.W.alike]
  · simp at hx
    rcases hx with rfl | rfl <;> simp
  · rw [PySem.W.dataLt_int]
    by_cases q : b < a
    · rw [if_pos q] at h
      rw [if_pos (decide_eq_true q)]
      exact h
    · rw [if_neg q] at h
      rw [if_neg (by rw [decide_eq_false q]; decide)]
      exact h
theorem cut_tail (xs : List PyData) : cutD xs (some 1) none = xs.drop 1 := by
  unfold cutD
  cases xs with
  | nil => simp
  | cons x r =>
    simp [HT.sIx]
abbrev sp__law_second (b : Addr) : SpD := fun xs Q => ∃ (l : Lot) (nf nb : Nat), xs = [.o (.ref b), .d (eLot l), .d (.int nf), .d (.int nb)] ∧ 0 < nf ∧ l.length ≤ 3 ∧ Lot.fit nf nb l ∧ ∀ m : Lot, m.length ≤ 4 → Lot.fit nf nb m → Q (.d (eLot m))
/-! _law_second(barn, lot, fields, badge): slots 0 barn, 1 lot, 2 fields, 3 badge, 4 way, 5 at, 6 look; calls _law_bale, _law_lot, _law_other -/
def w__law_second (b : Addr) : SW :=
    (wSeq (wSet 4 (wCall (sp__law_bale b) [(wVar 0), (wC (.int 8))]))
    (wSeq (wIf (wOpT eqF (wVar 4) (wC (.int 0))) (wRet (wSl (wVar 1) (some (wC (.int 1))) none)) wNil)
    (wSeq (wIf (wOpT eqF (wVar 4) (wC (.int 1))) (wRet (wSl (wOp addF (wVar 1) (wCall (sp__law_lot b) [(wVar 0), (wVar 2), (wVar 3), (wC (.int 3))])) none (some (wBlt (twoB minF) [(wC (.int 3)), (wOp addF (wBlt (one lenF) [(wVar 1)]) (wC (.int 1)))])))) wNil)
    (wSeq (wIf (wOpT eqF (wVar 4) (wC (.int 2))) (wRet (wBlt (one tupF) [(wLc (wSeqE (wStep (wVar 1) (wNeg (wC (.int 1))))) (.nm 6) wYes (wCall sp__law_other [(wVar 6)]) [6])])) wNil)
    (wSeq (wIf (wOpT eqF (wVar 4) (wC (.int 3))) (wSeq (wSet 5 (wCall (sp__law_bale b) [(wVar 0), (wVar 2)]))
      (wRet (wTup [(wTup [(wC (.str "=")), (wVar 5), (wTup [(wC (.str "c")), (wC (.int 4))])]), (wTup [(wC (.str "=")), (wVar 5), (wTup [(wC (.str "c")), (wC (.int 5))])])]))) wNil)
    (wSeq (wIf (wAndT (wOpT eqF (wVar 4) (wC (.int 4))) (wAndT (wOpT gtF (wBlt (one lenF) [(wVar 1)]) (wC (.int 0))) (wAndT (wOpT eqF (wIx (wIx (wVar 1) (wC (.int 0))) (wC (.int 0))) (wC (.str "="))) (wOpT eqF (wIx (wIx (wIx (wVar 1) (wC (.int 0))) (wC (.int 2))) (wC (.int 0))) (wC (.str "c")))))) (wRet (wTup [(wTup [(wC (.str "!")), (wIx (wIx (wVar 1) (wC (.int 0))) (wC (.int 1))), (wTup [(wC (.str "c")), (wOp subF (wIx (wIx (wIx (wVar 1) (wC (.int 0))) (wC (.int 2))) (wC (.int 1))) (wC (.int 1)))])])])) wNil)
    (wSeq (wIf (wOpT eqF (wVar 4) (wC (.int 5))) (wRet (wTup [])) wNil)
    (wRet (wCall (sp__law_lot b) [(wVar 0), (wVar 2), (wVar 3), (wCall (sp__law_bale b) [(wVar 0), (wC (.int 4))])])))))))))
theorem fin__law_second (b : Addr) (xs : List DV) (R : DV → Prop) (h : sp__law_second b xs R) : w__law_second b { nx := fun _ => R (.d .none), rt := R } (startE 7 xs) := by
  obtain ⟨l, nf, nb, rfl, hf, hl, hfit, hR⟩ := h
  simp only [w__law_second, startE, q_seq, q_set]
  show wCall _ _ [some (.o (.ref b)), some (.d (eLot l)), some (.d (.int nf)), some (.d (.int nb)), none, none, none] _
  simp only [q_call, q_args1, q_args0, q_var, q_slot0, q_C]
  refine ⟨by simp, 8, rfl, by omega, fun way hw => ⟨trivial, trivial, ?_⟩⟩
  rw [sq_nx]
  show wSeq _ _ _ [some (.o (.ref b)), some (.d (eLot l)), some (.d (.int nf)), some (.d (.int nb)), some (.d (.int way)), none, none]
  have hway : way = 0 ∨ way = 1 ∨ way = 2 ∨ way = 3 ∨ way = 4 ∨ way = 5 ∨ way = 6 ∨ way = 7 := by omega
  have tail : ∀ (way : Nat), (wRet (wCall (sp__law_lot b) [(wVar 0), (wVar 2), (wVar 3), (wCall (sp__law_bale b) [(wVar 0), (wC (.int 4))])])) { nx := fun _ => R (.d .none), rt := R } [some (.o (.ref b)), some (.d (eLot l)), some (.d (.int nf)), some (.d (.int nb)), some (.d (.int way)), none, none] := by
    intro way
    simp
    refine ⟨4, rfl, by omega, fun r hr => ?_⟩
    exact ⟨trivial, nf, nb, r, rfl, hf, by omega, fun m hm hf => ⟨trivial, hR m (by omega) hf⟩⟩
  rcases hway with rfl | rfl | rfl | rfl | rfl | rfl | rfl | rfl
  · simp [eLot, cut_tail]
    have := hR (l.drop 1) (by simp; omega) (fun k hk => hfit k (List.mem_of_mem_drop hk))
    simpa [eLot] using this
  · simp
    refine ⟨nf, nb, 3, rfl, hf, by omega, fun m hm hmf => ?_⟩
    simp [eLot]
    refine ⟨by omega, ?_⟩
    refine min_int _ _ _ ?_
    have fit2 : Lot.fit nf nb (l ++ m) := fun k hk => by
      rcases List.mem_append.mp hk with hk | hk
      · exact hfit k hk
      · exact hmf k hk
    have fin : ∀ n : Nat, n ≤ 4 → R (.d (.tuple (cutD (l.map eLk ++ m.map eLk) none (some (n : Int))))) := by
      intro n hn
      rw [cut_head, ← List.map_append, ← List.map_take]
      exact hR _ (by rw [List.length_take]; omega) fun k hk => fit2 k (List.mem_of_mem_take hk)
    by_cases q : (l.length : Int) + 1 < 3
    · rw [if_pos q]; exact fin (l.length + 1) (by omega)
    · rw [if_neg q]; exact fin 3 (by omega)
  · simp [eLot, stepF]
    rw [← List.map_reverse]
    refine lcW_map eLk (fun k => eLk (match k.tm with
      | .f n => ⟨k.eq, n, .f k.fld⟩
      | _ => k)) l.reverse (fun k hk Q q => ?_) (by rw [sz_eq]; simp; omega) ?_
    · simp
      exact ⟨k, rfl, trivial, trivial, q⟩
    · have := hR (l.reverse.map fun k => match k.tm with
        | .f n => (⟨k.eq, n, .f k.fld⟩ : Lk)
        | _ => k) (by simp; omega) (fun k hk => by
          obtain ⟨j, hj, rfl⟩ := List.mem_map.mp hk
          have g := hfit j (List.mem_reverse.mp hj)
          obtain ⟨e, n, t⟩ := j
          cases t with
          | f m => exact ⟨g.2, g.1⟩
          | b m => exact g
          | c z => exact g)
      simpa [eLot, List.map_map, Function.comp_def] using this
  · simp
    refine ⟨nf, rfl, by omega, fun r hr => ?_⟩
    have hr : r < nf := by omega
    have := hR [⟨true, r, .c 4⟩, ⟨true, r, .c 5⟩] (by simp) (fun k hk => by
      simp at hk
      rcases hk with rfl | rfl <;> exact ⟨hr, trivial⟩)
    simpa [eLot, eLk, eSg, eTm] using this
  · match l, hl, hfit with
    | [], hl, hfit => simpa [eLot] using tail 4
    | ⟨e, n, t⟩ :: l', hl, hfit =>
      have g := hfit ⟨e, n, t⟩ (by simp)
      simp [eLot, eLk, eSg_eq]
      have tl : sp__law_bale b [.o (.ref b), .d (.int 4)] fun x => noL x ∧ sp__law_lot b [.o (.ref b), .d (.int nf), .d (.int nb), x] fun x => noL x ∧ R (unL x) :=
        ⟨4, rfl, by omega, fun r hr => ⟨trivial, nf, nb, r, rfl, hf, by omega, fun m hm hf => ⟨trivial, hR m (by omega) hf⟩⟩⟩
      cases e with
      | false => exact tl
      | true =>
        cases t with
        | f m => simpa [eTm, show (("f" : Str) == "c") = false by decide] using tl
        | b m => simpa [eTm, show (("b" : Str) == "c") = false by decide] using tl
        | c z =>
          have := hR [⟨false, n, .c (z - 1)⟩] (by simp) (fun k hk => by
            rw [List.mem_singleton.mp hk]
            exact ⟨g.1, trivial⟩)
          simpa [eTm, eLot, eLk, eSg] using this
  · simp
    exact hR [] (by simp) (fun k hk => by cases hk)
  · simpa using tail 6
  · simpa using tail 7
end K85

set_option maxRecDepth 100000
set_option maxHeartbeats 1000000
namespace K85
open PySem L2 DL
/-! ### stores -/
def decI : PyData → Int
  | .int i => i
  | _ => 0
def decR : PyData → List Int
  | .tuple xs => xs.map decI
  | _ => []
theorem decR_eRw (r : List Int) : decR (eRw r) = r := by
  simp [decR, eRw, List.map_map, Function.comp_def, decI]
theorem srt_rows (rows : List (List Int)) : ∃ rows' : List (List Int), rows'.Perm rows ∧ srt (rows.map eRw) = rows'.map eRw := by
  have pm : (srt (rows.map eRw)).Perm (rows.map eRw) := List.mergeSort_perm _ _
  refine ⟨(srt (rows.map eRw)).map decR, ?_, ?_⟩
  · have := pm.map decR
    have e : (rows.map eRw).map decR = rows := by
      rw [List.map_map]
      have : decR ∘ eRw = id := funext decR_eRw
      rw [this, List.map_id]
    rw [e] at this
    exact this
  · rw [List.map_map]
    have : ∀ d ∈ srt (rows.map eRw), (eRw ∘ decR) d = d := by
      intro d hd
      obtain ⟨r, _, rfl⟩ := List.mem_map.mp (pm.mem_iff.mp hd)
      show eRw (decR (eRw r)) = eRw r
      rw [decR_eRw]
    conv => lhs; rw [← List.map_id (srt (rows.map eRw))]
    exact (List.map_congr_left fun d hd => (this d hd).symm)
inductive StOk (most : Nat) : List Tbl → List (List (List Int)) → Prop
  | nil : StOk most [] []
  | cons {t : Tbl} {ts : List Tbl} {rs : List (List Int)} {st : List (List (List Int))} : rs.length ≤ most → (∀ r ∈ rs, r.length = t.flds.length) → StOk most ts st → StOk most (t :: ts) (rs :: st)
abbrev sp__law_store (b : Addr) : SpD := fun xs Q => ∃ (A : App) (pool : List Int) (most : Nat), xs = [.o (.ref b), .d (eApp A), .d (.list (pool.map .int)), .d (.int most)] ∧ pool ≠ [] ∧ 0 < most ∧ most ≤ 10 ∧ A.tabs.length ≤ 100 ∧ (∀ t ∈ A.tabs, t.flds.length ≤ 100) ∧ ∀ st, StOk most A.tabs st → Q (.d (eSt st))
/-! _law_store(barn, app, pool, most): slots 0 barn, 1 app, 2 pool, 3 most, 4 store, 5 table, 6 fields, 7 rows, 8 at, 9 field; calls _law_bale -/
def w__law_store (b : Addr) : SW :=
    (wSeq (wOwn 4 [])
    (wSeq (wFor (wSeqI (wIx (wVar 1) (wC (.int 0)))) (.tp [5, 6])
      (wSeq (wOwn 7 [])
      (wSeq (wFor (wRng1 (wCall (sp__law_bale b) [(wVar 0), (wVar 3)])) (.nm 8)
        (wApp 7 (wBlt (one tupF) [(wLc (wSeqE (wVar 6)) (.nm 9) wYes (wIx (wVar 2) (wCall (sp__law_bale b) [(wVar 0), (wBlt (one lenF) [(wVar 2)])])) [9])])))
      (wFrz 7 (wApp 4 (wBlt (one tupF) [(wBlt (one sortedF) [(wVar 7)])]))))))
    (wFrz 4 (wRet (wBlt (one tupF) [(wVar 4)])))))
theorem fin__law_store (b : Addr) (xs : List DV) (R : DV → Prop) (h : sp__law_store b xs R) : w__law_store b { nx := fun _ => R (.d .none), rt := R } (startE 10 xs) := by
  obtain ⟨A, pool, most, rfl, hp, hm0, hm, hT, hF, hR⟩ := h
  have hpl : 0 < pool.length := List.length_pos_iff.mpr hp
  -- one row
  have row : ∀ (t : Tbl) (s4 s5 s7 s8 : Option DV) (Q : PyData → Prop), t.flds.length ≤ 100 → (∀ r : List Int, r.length = t.flds.length → Q (eRw r)) →
      (wBlt (one tupF) [(wLc (wSeqE (wVar 6)) (.nm 9) wYes (wIx (wVar 2) (wCall (sp__law_bale b) [(wVar 0), (wBlt (one lenF) [(wVar 2)])])) [9])]) [some (.o (.ref b)), some (.d (eApp A)), some (.d (.list (pool.map .int))), some (.d (.int most)), s4, s5, some (.d (.tuple (t.flds.map .str))), s7, s8, none] (fun y => onD y Q) := by
    intro t s4 s5 s7 s8 Q hf hQ
    simp only [q_blt, q_args1, q_args0, q_lc, q_seqE, q_var, q_slot6, q_asLd, q_seqT]
    refine lcW_nd PyData.str (fun _ : Int => True) PyData.int t.flds [] (fun x hx Q' q => ?_) (by rw [sz_eq]; simp; omega) fun r hr _ => ?_
    · rw [q_bindN]
      show wIx _ _ [some (.o (.ref b)), some (.d (eApp A)), some (.d (.list (pool.map .int))), some (.d (.int most)), s4, s5, some (.d (.tuple (t.flds.map .str))), s7, s8, some (.d (.str x))] _
      simp only [q_ix, q_var, q_slot2, q_call, q_args1, q_args0, q_slot0, q_blt, q_one, q_asLd, q_lenL, List.length_map]
      refine ⟨by simp, pool.length, rfl, by omega, fun i hi => ⟨trivial, ?_⟩⟩
      have hi : i < pool.length := by omega
      have e : atI (pool.map PyData.int) (i : Int) = some (.int pool[i]) := by rw [DL.atI_nat (by simpa using hi)]; simp [hi]
      simp only [q_onD, q_ixL, e]
      exact q _ trivial
    · simp only [List.nil_append, q_one, q_asLd, q_tupL, q_onD]
      exact hQ r hr
  -- the rows of a table
  have rows : ∀ (D : DEnds) (t : Tbl) (k i : Nat) (acc : List (List Int)) (s4 s5 s8 : Option DV), t.flds.length ≤ 100 → acc.length + k ≤ 1000 → (∀ r ∈ acc, r.length = t.flds.length) →
      (∀ (more : List (List Int)) (s8 : Option DV), more.length = acc.length + k → (∀ r ∈ more, r.length = t.flds.length) → D.nx [some (.o (.ref b)), some (.d (eApp A)), some (.d (.list (pool.map .int))), some (.d (.int most)), s4, s5, some (.d (.tuple (t.flds.map .str))), some (.l (more.map eRw)), s8, none]) →
      loopW (.nm 8) (wApp 7 (wBlt (one tupF) [(wLc (wSeqE (wVar 6)) (.nm 9) wYes (wIx (wVar 2) (wCall (sp__law_bale b) [(wVar 0), (wBlt (one lenF) [(wVar 2)])])) [9])])) D ((List.range' i k).map fun (j : Nat) => PyData.int (0 + (j : Int)))
        [some (.o (.ref b)), some (.d (eApp A)), some (.d (.list (pool.map .int))), some (.d (.int most)), s4, s5, some (.d (.tuple (t.flds.map .str))), some (.l (acc.map eRw)), s8, none] := by
    intro D t k
    induction k with
    | zero => intro i acc s4 s5 s8 _ _ ha h; exact h acc s8 rfl ha
    | succ k ih =>
      intro i acc s4 s5 s8 hf hl ha h
      rw [List.range'_succ, List.map_cons, q_loop1, q_bindN]
      show wApp _ _ _ [some (.o (.ref b)), some (.d (eApp A)), some (.d (.list (pool.map .int))), some (.d (.int most)), s4, s5, some (.d (.tuple (t.flds.map .str))), some (.l (acc.map eRw)), some (.d (.int (0 + (i : Int)))), none]
      rw [q_app, q_slot7]
      refine row t s4 s5 _ _ _ hf fun r hr => ?_
      refine ⟨by rw [sz_eq]; simp; omega, ?_⟩
      have := ih (i + 1) (acc ++ [r]) s4 s5 (some (.d (.int (0 + (i : Int))))) hf (by simp; omega) (by
        intro x hx
        rcases List.mem_append.mp hx with hx | hx
        · exact ha x hx
        · rw [List.mem_singleton.mp hx]; exact hr) (fun more s8 hmore hr => h more s8 (by rw [hmore]; simp; omega) hr)
      simpa using this
  have out : ∀ (D : DEnds) (ts : List Tbl) (acc : List (List (List Int))) (s5 s6 s7 s8 : Option DV), (∀ t ∈ ts, t.flds.length ≤ 100) → acc.length + ts.length ≤ 1000 →
      (∀ (st : List (List (List Int))) (s5 s6 s7 s8 : Option DV), StOk most ts st → D.nx [some (.o (.ref b)), some (.d (eApp A)), some (.d (.list (pool.map .int))), some (.d (.int most)), some (.l ((acc ++ st).map eRws)), s5, s6, s7, s8, none]) →
      loopW (.tp [5, 6]) (wSeq (wOwn 7 [])
      (wSeq (wFor (wRng1 (wCall (sp__law_bale b) [(wVar 0), (wVar 3)])) (.nm 8)
        (wApp 7 (wBlt (one tupF) [(wLc (wSeqE (wVar 6)) (.nm 9) wYes (wIx (wVar 2) (wCall (sp__law_bale b) [(wVar 0), (wBlt (one lenF) [(wVar 2)])])) [9])])))
      (wFrz 7 (wApp 4 (wBlt (one tupF) [(wBlt (one sortedF) [(wVar 7)])]))))) D (ts.map eTbl)
        [some (.o (.ref b)), some (.d (eApp A)), some (.d (.list (pool.map .int))), some (.d (.int most)), some (.l (acc.map eRws)), s5, s6, s7, s8, none] := by
    intro D ts
    induction ts with
    | nil =>
      intro acc s5 s6 s7 s8 _ _ h
      have := h [] s5 s6 s7 s8 .nil
      simpa using this
    | cons t ts ih =>
      intro acc s5 s6 s7 s8 hf hl h
      rw [List.length_cons] at hl
      have ht := hf t (by simp)
      rw [List.map_cons, q_loop1, eTbl, q_bindT, q_bindE1, q_bindE1, q_bindE0]
      show wSeq _ _ _ [some (.o (.ref b)), some (.d (eApp A)), some (.d (.list (pool.map .int))), some (.d (.int most)), some (.l (acc.map eRws)), some (.d (.str t.name)), some (.d (.tuple (t.flds.map .str))), s7, s8, none]
      simp only [q_seq, q_own, q_args0, q_allD0, sq_nx]
      show wFor _ _ _ _ [some (.o (.ref b)), some (.d (eApp A)), some (.d (.list (pool.map .int))), some (.d (.int most)), some (.l (acc.map eRws)), some (.d (.str t.name)), some (.d (.tuple (t.flds.map .str))), some (.l []), s8, none]
      simp only [q_for, q_rng1, q_call, q_args1, q_args0, q_var, q_slot0, q_slot3]
      refine ⟨by simp, most, rfl, by omega, fun n hn => ⟨trivial, ?_⟩⟩
      simp only [q_onD]
      refine ⟨⟨by omega, by omega⟩, ?_⟩
      have er : rngD 0 ((n : Int)).toNat = (List.range' 0 n).map fun (j : Nat) => PyData.int (0 + (j : Int)) := by simp [rngD, List.range_eq_range']
      rw [er]
      refine rows _ t n 0 [] _ _ _ ht (by simp; omega) (by simp) fun more s8 hmore hr => ?_
      simp only [List.length_nil, Nat.zero_add] at hmore
      simp only [sq_nx, q_frz, q_slot7]
      show wApp _ _ _ [some (.o (.ref b)), some (.d (eApp A)), some (.d (.list (pool.map .int))), some (.d (.int most)), some (.l (acc.map eRws)), some (.d (.str t.name)), some (.d (.tuple (t.flds.map .str))), some (.d (.list (more.map eRw))), s8, none]
      simp only [q_app, q_slot4, q_blt, q_args1, q_args0, q_var, q_slot7, q_one, q_asLd]
      refine ⟨sorts_rows more t.flds.length hr, ?_⟩
      obtain ⟨more', pm, e⟩ := srt_rows more
      have e : (more.map eRw).mergeSort (PySem.W.dataLe false id) = more'.map eRw := e
      simp only [q_tupL, q_onD, e]
      refine ⟨by rw [sz_eq]; simp; omega, ?_⟩
      have := ih (acc ++ [more']) (some (.d (.str t.name))) (some (.d (.tuple (t.flds.map .str)))) (some (.d (.list (more.map eRw)))) s8 (fun t h => hf t (by simp [h])) (by simp; omega) (fun st s5 s6 s7 s8 hst => by
        have := h (more' :: st) s5 s6 s7 s8 (.cons (by rw [pm.length_eq, hmore]; omega) (fun r hr' => hr r (pm.mem_iff.mp hr')) hst)
        simpa using this)
      simpa [eRws] using this
  simp only [w__law_store, startE, q_seq, q_own, q_args0, q_allD0, sq_nx]
  show wFor _ _ _ _ [some (.o (.ref b)), some (.d (eApp A)), some (.d (.list (pool.map .int))), some (.d (.int most)), some (.l []), none, none, none, none, none]
  simp only [q_for, q_seqI, q_ix, q_var, q_slot1, q_C, q_onD, q_asLd]
  show ixF (eApp A) _ _
  simp only [eApp, q_ixT, q_at0, q_seqT]
  refine out _ A.tabs [] _ _ _ _ hF (by simp; omega) fun st s5 s6 s7 s8 hst => ?_
  exact hR st hst
end K85

set_option maxRecDepth 100000
set_option maxHeartbeats 1000000
namespace K85
open PySem L2 DL
/-! ### sights of persons -/
def App.fits (A : App) : Prop := ∀ r ∈ A.rols, ∀ w ∈ r.wins, ∀ t ∈ A.tabs, t.name = w.tbl → w.fit t.flds.length r.badge.length
theorem App.fits.trim {A : App} (G : A.good) (F : A.fits) : (trimA A).fits := by
  intro r hr w hw t ht e
  obtain ⟨r0, h0, rfl⟩ := List.mem_map.mp hr
  obtain ⟨w0, g0, q⟩ := List.mem_filterMap.mp hw
  obtain ⟨_, _, _, et, es, sub, _⟩ := trimW_some (G.ok r0 h0 w0 g0) q
  have := F r0 h0 w0 g0 t ht (e.trans et)
  exact ⟨fun l hl => this.lk l (sub l hl), fun n hn => this.sh n (by rw [← es]; exact hn)⟩
theorem StOk.get {most : Nat} {ts : List Tbl} {st : List (List (List Int))} (h : StOk most ts st) : st.length = ts.length ∧ ∀ (i : Nat) (t : Tbl) (rs : List (List Int)), ts[i]? = some t → st[i]? = some rs → rs.length ≤ most ∧ ∀ r ∈ rs, r.length = t.flds.length := by
  induction h with
  | nil => exact ⟨rfl, fun i t rs h => by simp at h⟩
  | cons h1 h2 _ ih =>
    refine ⟨by simp [ih.1], fun i t rs e1 e2 => ?_⟩
    cases i with
    | zero => simp at e1 e2; subst e1 e2; exact ⟨h1, h2⟩
    | succ i => exact ih.2 i t rs (by simpa using e1) (by simpa using e2)
theorem sees_of {A : App} (G : A.good) (F : A.fits) {r : Rol} (hr : r ∈ A.rols) {badge : List Int} (hb : badge.length = r.badge.length) {most : Nat} (hm : most ≤ 1000) {st : List (List (List Int))} (h : StOk most A.tabs st) : Sees A ⟨r.name, badge⟩ r st where
  rol := G.rol hr
  nd := G.tnd
  nm := G.tnm
  tabs := G.tabs
  len := h.get.1
  rows := fun i t rs e1 e2 => by
    have := h.get.2 i t rs e1 e2
    exact ⟨by omega, this.2⟩
  win := fun t ht w hw => by
    have hm := win_mem hw
    have e : w.tbl = t.name := by
      have := List.find?_some hw
      exact eq_of_beq this
    refine ⟨G.ok r hr w hm, ?_⟩
    show w.fit t.flds.length badge.length
    rw [hb]
    exact F r hr w hm t ht e.symm
theorem tup_sight {A : App} (G : A.good) (rl : Rol) (badge : List Int) {most : Nat} (hm : most ≤ 1000) {st : List (List (List Int))} (h : StOk most A.tabs st) (hf : ∀ w, w ∈ rl.wins → w.ok) : tupD (sightA A rl badge st) = true ∧ (sightA A rl badge st).depth ≤ 12 := by
  refine ⟨tupD_map _ (by rw [List.length_zip]; have := G.tabs; omega) fun a ha => ?_, by have := sightA_depth A rl badge st; omega⟩
  obtain ⟨i, hi, e⟩ := List.mem_iff_getElem.mp ha
  have hz : (A.tabs.zip st)[i]? = some a := by rw [List.getElem?_eq_getElem hi, e]
  rw [List.getElem?_zip_eq_some] at hz
  have hl := (h.get.2 i a.1 a.2 hz.1 hz.2).1
  cases q : rl.win a.1.name with
  | none => simp [tableB, tupD]
  | some w =>
    have g := hf w (win_mem q)
    have pm := List.mergeSort_perm ((showsOf (some w) badge a.2).map eRw) (PySem.W.dataLe false id)
    simp only [tableB, srt, tupD, Bool.and_eq_true, decide_eq_true_eq]
    refine ⟨by rw [pm.length_eq, List.length_map]; have := List.length_filterMap_le (fun r => showB (some w) r badge) a.2; unfold showsOf; omega, tupAll_iff.mpr fun x hx => ?_⟩
    obtain ⟨r, hr, rfl⟩ := List.mem_map.mp (pm.mem_iff.mp hx)
    have := shows_len r hr
    exact tupD_map PyData.int (by have := g.shown; omega) fun _ _ => rfl
end K85

set_option maxRecDepth 100000
set_option maxHeartbeats 1000000
namespace K85
open PySem L2 DL
abbrev sp__law_sights_right (b : Addr) : SpD := fun xs Q => ∃ A : App, xs = [.o (.ref b), .d (eApp A), .d (eApp (trimA A))] ∧ A.good ∧ A.fits ∧ A.tabs ≠ [] ∧ Q (.d (.bool true))
/-! _law_sights_right(barn, app, less): slots 0 barn, 1 app, 2 less, 3 role, 4 badge, 5 person, 6 pool, 7 store, 8 other, 9 one, 10 at, 11 sights, 12 row, 13 number, 14 part; calls _law_bale, _law_same, _law_sight, _law_store, are_alike, sight_of -/
def w__law_sights_right (b : Addr) : SW :=
    (wSeq (wFor (wSeqI (wIx (wVar 1) (wC (.int 1)))) (.nm 3)
      (wSeq (wSet 4 (wBlt (one tupF) [(wLc (wSeqE (wIx (wVar 3) (wC (.int 1)))) (.nm 13) wYes (wIx (wLst [(wC (.int 1)), (wC (.int 2)), (wC (.int 9)), (wNeg (wC (.int 3)))]) (wCall (sp__law_bale b) [(wVar 0), (wC (.int 4))])) [13])]))
      (wSeq (wSet 5 (wTup [(wIx (wVar 3) (wC (.int 0))), (wVar 4)]))
      (wSeq (wSet 6 (wOp addF (wBlt (one listF) [(wVar 4)]) (wLst [(wC (.int 1)), (wC (.int 2)), (wC (.int 4)), (wC (.int 5)), (wOp powF (wC (.int 10)) (wC (.int 9))), (wNeg (wC (.int 3)))])))
      (wSeq (wSet 7 (wCall (sp__law_store b) [(wVar 0), (wVar 1), (wVar 6), (wC (.int 5))]))
      (wSeq (wSet 8 (wCall (sp__law_store b) [(wVar 0), (wVar 1), (wVar 6), (wC (.int 2))]))
      (wSeq (wIf (wOpT eqF (wCall (sp__law_bale b) [(wVar 0), (wC (.int 2))]) (wC (.int 0))) (wSeq (wSet 10 (wCall (sp__law_bale b) [(wVar 0), (wBlt (one lenF) [(wVar 7)])]))
        (wSeq (wSet 8 (wOp addF (wOp addF (wSl (wVar 7) none (some (wVar 10))) (wTup [(wSl (wIx (wVar 7) (wVar 10)) (some (wC (.int 1))) none)])) (wSl (wVar 7) (some (wOp addF (wVar 10) (wC (.int 1)))) none)))
        (wIf (wAndT (wOpT gtF (wBlt (one lenF) [(wIx (wVar 7) (wVar 10))]) (wC (.int 0))) (wOpT gtF (wCall (sp__law_bale b) [(wVar 0), (wC (.int 3))]) (wC (.int 0)))) (wSeq (wSet 12 (wBlt (one tupF) [(wLc (wSeqE (wIx (wIx (wVar 7) (wVar 10)) (wC (.int 0)))) (.nm 14) wYes (wIx (wLst [(wVar 14), (wVar 14), (wIx (wVar 6) (wCall (sp__law_bale b) [(wVar 0), (wBlt (one lenF) [(wVar 6)])]))]) (wCall (sp__law_bale b) [(wVar 0), (wC (.int 3))])) [14])]))
          (wSet 8 (wOp addF (wOp addF (wSl (wVar 7) none (some (wVar 10))) (wTup [(wBlt (one tupF) [(wBlt (one sortedF) [(wOp addF (wSl (wIx (wVar 7) (wVar 10)) (some (wC (.int 1))) none) (wTup [(wVar 12)]))])])])) (wSl (wVar 7) (some (wOp addF (wVar 10) (wC (.int 1)))) none)))) wNil))) wNil)
      (wFor (wSeqI (wTup [(wVar 1), (wVar 2)])) (.nm 9)
        (wSeq (wSet 11 (wTup [(wCall sp__law_sight [(wVar 9), (wVar 5), (wVar 7)]), (wCall sp__law_sight [(wVar 9), (wVar 5), (wVar 8)])]))
        (wSeq (wIf (wOrT (wNotT (wTru (wCall sp__law_same [(wCall sp_sight_of [(wVar 9), (wVar 5), (wVar 7)]), (wIx (wVar 11) (wC (.int 0)))]))) (wNotT (wTru (wCall sp__law_same [(wCall sp_sight_of [(wVar 9), (wVar 5), (wVar 8)]), (wIx (wVar 11) (wC (.int 1)))])))) (wRet (wC (.bool false))) wNil)
        (wIf (wNotT (wTru (wCall sp__law_same [(wCall sp_are_alike [(wVar 9), (wVar 5), (wVar 7), (wVar 8)]), (wOp eqF (wIx (wVar 11) (wC (.int 0))) (wIx (wVar 11) (wC (.int 1))))]))) (wRet (wC (.bool false))) wNil)))))))))))
    (wRet (wC (.bool true))))
abbrev b_s9 : SW := (wSeq (wSet 11 (wTup [(wCall sp__law_sight [(wVar 9), (wVar 5), (wVar 7)]), (wCall sp__law_sight [(wVar 9), (wVar 5), (wVar 8)])]))
        (wSeq (wIf (wOrT (wNotT (wTru (wCall sp__law_same [(wCall sp_sight_of [(wVar 9), (wVar 5), (wVar 7)]), (wIx (wVar 11) (wC (.int 0)))]))) (wNotT (wTru (wCall sp__law_same [(wCall sp_sight_of [(wVar 9), (wVar 5), (wVar 8)]), (wIx (wVar 11) (wC (.int 1)))])))) (wRet (wC (.bool false))) wNil)
        (wIf (wNotT (wTru (wCall sp__law_same [(wCall sp_are_alike [(wVar 9), (wVar 5), (wVar 7), (wVar 8)]), (wOp eqF (wIx (wVar 11) (wC (.int 0))) (wIx (wVar 11) (wC (.int 1))))]))) (wRet (wC (.bool false))) wNil)))
section
variable {D : DEnds}
theorem s9_one {B : App} (GB : B.good) (FB : B.fits) {r : Rol} (hr : r ∈ B.rols) {badge : List Int} (hb : badge.length = r.badge.length) {st ot : List (List (List Int))} (h1 : StOk 1000 B.tabs st) (h2 : StOk 1000 B.tabs ot)
    (s0 s1 s2 s3 s4 s6 s10 s11 s12 s13 s14 : Option DV) (h : ∀ s11, D.nx [s0, s1, s2, s3, s4, some (.d (ePer ⟨r.name, badge⟩)), s6, some (.d (eSt st)), some (.d (eSt ot)), some (.d (eApp B)), s10, s11, s12, s13, s14]) :
    b_s9 D [s0, s1, s2, s3, s4, some (.d (ePer ⟨r.name, badge⟩)), s6, some (.d (eSt st)), some (.d (eSt ot)), some (.d (eApp B)), s10, s11, s12, s13, s14] := by
  have S1 := sees_of GB FB hr hb (Nat.le_refl _) h1
  have S2 := sees_of GB FB hr hb (Nat.le_refl _) h2
  have T1 := tup_sight GB r badge (Nat.le_refl _) h1 fun w hw => GB.ok r hr w hw
  have T2 := tup_sight GB r badge (Nat.le_refl _) h2 fun w hw => GB.ok r hr w hw
  have nd := GB.wnd r hr
  have gw := GB.wins r hr
  have gr := GB.rols
  simp only [q_seq, q_set, q_tup, q_args1, q_args0, q_call, q_var, q_slot9, q_slot5, q_slot7, q_slot8]
  refine ⟨by simp, (B, ⟨r.name, badge⟩, st, r), rfl, ⟨S1, nd, gr, gw⟩, trivial, ?_⟩
  refine ⟨by simp, (B, ⟨r.name, badge⟩, ot, r), rfl, ⟨S2, nd, gr, gw⟩, trivial, ?_⟩
  simp only [q_allD1, q_allD0]
  refine ⟨trivial, ?_⟩
  rw [sq_nx]
  show wSeq _ _ _ [s0, s1, s2, s3, s4, some (.d (ePer ⟨r.name, badge⟩)), s6, some (.d (eSt st)), some (.d (eSt ot)), some (.d (eApp B)), s10, some (.d (.tuple [sightA B r badge st, sightA B r badge ot])), s12, s13, s14]
  simp only [q_seq, q_if, q_orT, q_notT, q_tru, q_call, q_args1, q_args0, q_ix, q_C, q_var, q_slot9, q_slot5, q_slot7, q_slot8, q_slot11, q_onD, q_asLd, q_ixT, q_at0, q_at1]
  refine ⟨by simp, (B, ⟨r.name, badge⟩, st, r), rfl, S1, trivial, ?_⟩
  refine ⟨by simp, same_ok T1 ⟨trivial, ?_⟩⟩
  simp only [q_truV, q_truB, Bool.not_true]
  refine ⟨by simp, (B, ⟨r.name, badge⟩, ot, r), rfl, S2, trivial, ?_⟩
  refine ⟨by simp, same_ok T2 ⟨trivial, ?_⟩⟩
  simp only [q_truV, q_truB, Bool.not_true, q_nil, sq_nx]
  show wIf _ _ _ _ [s0, s1, s2, s3, s4, some (.d (ePer ⟨r.name, badge⟩)), s6, some (.d (eSt st)), some (.d (eSt ot)), some (.d (eApp B)), s10, some (.d (.tuple [sightA B r badge st, sightA B r badge ot])), s12, s13, s14]
  simp only [q_if, q_notT, q_tru, q_call, q_args1, q_args0, q_op, q_ix, q_C, q_var, q_slot9, q_slot5, q_slot7, q_slot8, q_slot11, q_onD, q_asLd, q_ixT, q_at0, q_at1, q_eq]
  refine ⟨by simp, (B, ⟨r.name, badge⟩, st, ot, r), rfl, ⟨S1, S2⟩, trivial, ?_⟩
  refine ⟨by have := Nat.min_le_left (sightA B r badge st).depth (sightA B r badge ot).depth; have := sightA_depth B r badge st; omega, by simp, ?_⟩
  refine same_ok (d := .bool (PyData.eqv (sightA B r badge st) (sightA B r badge ot))) (by simp [tupD]) ⟨trivial, ?_⟩
  simp only [q_truV, q_truB, Bool.not_true, q_nil]
  exact h _
theorem s9_both {A : App} (G : A.good) (F : A.fits) {r : Rol} (hr : r ∈ A.rols) {badge : List Int} (hb : badge.length = r.badge.length) {st ot : List (List (List Int))} (h1 : StOk 1000 A.tabs st) (h2 : StOk 1000 A.tabs ot)
    (s0 s3 s4 s6 s9 s10 s11 s12 s13 s14 : Option DV) (h : ∀ s9 s11, D.nx [s0, some (.d (eApp A)), some (.d (eApp (trimA A))), s3, s4, some (.d (ePer ⟨r.name, badge⟩)), s6, some (.d (eSt st)), some (.d (eSt ot)), s9, s10, s11, s12, s13, s14]) :
    (wFor (wSeqI (wTup [(wVar 1), (wVar 2)])) (.nm 9) b_s9) D [s0, some (.d (eApp A)), some (.d (eApp (trimA A))), s3, s4, some (.d (ePer ⟨r.name, badge⟩)), s6, some (.d (eSt st)), some (.d (eSt ot)), s9, s10, s11, s12, s13, s14] := by
  simp only [q_for, q_seqI, q_tup, q_args1, q_args0, q_var, q_slot1, q_slot2, q_allD1, q_allD0, q_onD, q_seqT]
  rw [q_loop1, q_bindN]
  refine s9_one G F hr hb h1 h2 _ _ _ _ _ _ _ _ _ _ _ fun s11 => ?_
  rw [lp_nx, q_loop1, q_bindN]
  refine s9_one (B := trimA A) (r := trimR r) G.trim (F.trim G) (List.mem_map.mpr ⟨r, hr, rfl⟩) hb h1 h2 _ _ _ _ _ _ _ _ _ _ _ fun s11 => ?_
  rw [lp_nx, q_loop0]
  exact h _ _
theorem StOk.le {m n : Nat} {ts : List Tbl} {st : List (List (List Int))} (h : StOk m ts st) (hm : m ≤ n) : StOk n ts st := by
  induction h with
  | nil => exact .nil
  | cons h1 h2 _ ih => exact .cons (Nat.le_trans h1 hm) h2 ih
/-- a store with the rows of one table put otherwise -/
theorem StOk.put {m : Nat} {ts : List Tbl} {st : List (List (List Int))} (h : StOk m ts st) {i : Nat} {t : Tbl} (ht : ts[i]? = some t) {rs : List (List Int)} (h1 : rs.length ≤ m) (h2 : ∀ r ∈ rs, r.length = t.flds.length) : StOk m ts (st.take i ++ [rs] ++ st.drop (i + 1)) := by
  induction h generalizing i with
  | nil => simp at ht
  | cons g1 g2 g ih =>
    cases i with
    | zero => simp at ht; subst ht; exact .cons h1 h2 g
    | succ i =>
      have := ih (i := i) (by simpa using ht)
      exact .cons g1 g2 (by simpa using this)
end
end K85

set_option maxRecDepth 100000
set_option maxHeartbeats 1000000
namespace K85
open PySem L2 DL
section
variable {D : DEnds}
theorem cut_from (xs : List PyData) (n : Nat) : cutD xs (some (n : Int)) none = xs.drop n := by
  unfold cutD
  rw [HT.sIx_nat, HT.sIx_none]
  rcases Nat.le_total n xs.length with h | h
  · rw [Nat.min_eq_left h, List.take_of_length_le (by rw [List.length_drop]; omega)]
  · rw [Nat.min_eq_right h, List.drop_eq_nil_of_le (Nat.le_refl _), List.drop_eq_nil_of_le h]
    simp
theorem put_data (st : List (List (List Int))) (i : Nat) (rs : List (List Int)) : PyData.tuple ((st.map eRws).take i ++ [eRws rs] ++ (st.map eRws).drop (i + 1)) = eSt (st.take i ++ [rs] ++ st.drop (i + 1)) := by
  simp [eSt, List.map_take, List.map_drop]
/-- the badge that is drawn -/
theorem badge_draw (b : Addr) (bl : List Str) (hl : bl.length ≤ 100) (nm : Str) (ws : PyData) (s1 s2 s4 s5 s6 s7 s8 s9 s10 s11 s12 s13 s14 : Option DV) (Q : DV → Prop) (hQ : ∀ bd : List Int, bd.length = bl.length → Q (.d (eRw bd))) :
    (wBlt (one tupF) [(wLc (wSeqE (wIx (wVar 3) (wC (.int 1)))) (.nm 13) wYes (wIx (wLst [(wC (.int 1)), (wC (.int 2)), (wC (.int 9)), (wNeg (wC (.int 3)))]) (wCall (sp__law_bale b) [(wVar 0), (wC (.int 4))])) [13])]) [some (.o (.ref b)), s1, s2, some (.d (.tuple [.str nm, .tuple (bl.map .str), ws])), s4, s5, s6, s7, s8, s9, s10, s11, s12, s13, s14] Q := by
  simp only [q_blt, q_args1, q_args0, q_lc, q_seqE, q_ix, q_var, q_slot3, q_C, q_onD, q_asLd, q_ixT, q_at1, q_seqT]
  refine lcW_nd PyData.str (fun _ : Int => True) PyData.int bl [] (fun x hx Q' q => ?_) (by rw [sz_eq]; simp; omega) fun r hr _ => ?_
  · rw [q_bindN]
    show wIx _ _ [some (.o (.ref b)), s1, s2, some (.d (.tuple [.str nm, .tuple (bl.map .str), ws])), s4, s5, s6, s7, s8, s9, s10, s11, s12, some (.d (.str x)), s14] _
    simp only [q_ix, q_lst, q_args1, q_args0, q_C, q_neg, q_onD, q_negF, q_allD1, q_allD0, q_call, q_var, q_slot0]
    refine ⟨by simp, 4, rfl, by omega, fun i hi => ⟨trivial, ?_⟩⟩
    simp only [q_onD, q_asLd, q_ixL]
    have : i = 0 ∨ i = 1 ∨ i = 2 ∨ i = 3 := by omega
    rcases this with rfl | rfl | rfl | rfl
    · exact q 1 trivial
    · exact q 2 trivial
    · exact q 9 trivial
    · exact q (-3) trivial
  · simp only [List.nil_append, q_one, q_asLd, q_tupL]
    exact hQ r hr
/-- the other store is the first one with one table put otherwise -/
theorem put_one {b : Addr} {A : App} {st : List (List (List Int))} {pool : List Int} (hp : pool ≠ []) (h1 : StOk 5 A.tabs st) (hT : A.tabs ≠ []) (hT2 : A.tabs.length ≤ 100) (hF : ∀ t ∈ A.tabs, t.flds.length ≤ 100) (s1 s2 s3 s4 s5 s8 s9 s10 s11 s12 s13 s14 : Option DV)
    (h0 : ∀ s10 s12, D.nx [some (.o (.ref b)), s1, s2, s3, s4, s5, some (.d (.list (pool.map .int))), some (.d (eSt st)), s8, s9, s10, s11, s12, s13, s14])
    (h : ∀ ot, StOk 1000 A.tabs ot → ∀ s10 s12, D.nx [some (.o (.ref b)), s1, s2, s3, s4, s5, some (.d (.list (pool.map .int))), some (.d (eSt st)), some (.d (eSt ot)), s9, s10, s11, s12, s13, s14]) :
    (wIf (wOpT eqF (wCall (sp__law_bale b) [(wVar 0), (wC (.int 2))]) (wC (.int 0))) (wSeq (wSet 10 (wCall (sp__law_bale b) [(wVar 0), (wBlt (one lenF) [(wVar 7)])]))
        (wSeq (wSet 8 (wOp addF (wOp addF (wSl (wVar 7) none (some (wVar 10))) (wTup [(wSl (wIx (wVar 7) (wVar 10)) (some (wC (.int 1))) none)])) (wSl (wVar 7) (some (wOp addF (wVar 10) (wC (.int 1)))) none)))
        (wIf (wAndT (wOpT gtF (wBlt (one lenF) [(wIx (wVar 7) (wVar 10))]) (wC (.int 0))) (wOpT gtF (wCall (sp__law_bale b) [(wVar 0), (wC (.int 3))]) (wC (.int 0)))) (wSeq (wSet 12 (wBlt (one tupF) [(wLc (wSeqE (wIx (wIx (wVar 7) (wVar 10)) (wC (.int 0)))) (.nm 14) wYes (wIx (wLst [(wVar 14), (wVar 14), (wIx (wVar 6) (wCall (sp__law_bale b) [(wVar 0), (wBlt (one lenF) [(wVar 6)])]))]) (wCall (sp__law_bale b) [(wVar 0), (wC (.int 3))])) [14])]))
          (wSet 8 (wOp addF (wOp addF (wSl (wVar 7) none (some (wVar 10))) (wTup [(wBlt (one tupF) [(wBlt (one sortedF) [(wOp addF (wSl (wIx (wVar 7) (wVar 10)) (some (wC (.int 1))) none) (wTup [(wVar 12)]))])])])) (wSl (wVar 7) (some (wOp addF (wVar 10) (wC (.int 1)))) none)))) wNil))) wNil) D
      [some (.o (.ref b)), s1, s2, s3, s4, s5, some (.d (.list (pool.map .int))), some (.d (eSt st)), s8, s9, s10, s11, s12, s13, s14] := by
  have hlen := h1.get.1
  have hpos : 0 < A.tabs.length := List.length_pos_iff.mpr hT
  simp only [q_if, q_opT, q_call, q_args1, q_args0, q_var, q_slot0, q_C]
  refine ⟨by simp, 2, rfl, by omega, fun c hc => ⟨trivial, ?_⟩⟩
  simp only [q_onD, q_eq, v_int, q_asB]
  refine ⟨by simp, ?_⟩
  cases z : ((c : Int) == 0) with
  | false => exact h0 _ _
  | true =>
    simp only [q_seq, q_set, q_call, q_args1, q_args0, q_var, q_slot0, q_blt, q_slot7, q_one, q_asLd, eSt, q_lenT, List.length_map]
    refine ⟨by simp, st.length, rfl, by omega, fun i hi => ⟨trivial, trivial, ?_⟩⟩
    have hi : i < st.length := by omega
    have hit : i < A.tabs.length := by omega
    have ht : A.tabs[i]? = some A.tabs[i] := List.getElem?_eq_getElem hit
    have hs : st[i]? = some st[i] := List.getElem?_eq_getElem hi
    have gr := h1.get.2 i _ _ ht hs
    have ea : atI (st.map eRws) (i : Int) = some (eRws st[i]) := by rw [DL.atI_nat (by simpa using hi)]; simp [hi]
    rw [sq_nx]
    show wSeq _ _ _ [some (.o (.ref b)), s1, s2, s3, s4, s5, some (.d (.list (pool.map .int))), some (.d (eSt st)), s8, s9, some (.d (.int (i : Int))), s11, s12, s13, s14]
    have lr : (st[i].drop 1).length ≤ 1000 := by rw [List.length_drop]; omega
    have o1 := (h1.le (show 5 ≤ 1000 by omega)).put ht lr fun r hr => gr.2 r (List.mem_of_mem_drop hr)
    have ei : (i : Int) + 1 = ((i + 1 : Nat) : Int) := by omega
    simp only [q_seq, q_set, q_op, q_sl, q_partN, q_partS, q_var, q_slot7, q_slot10, q_onD, q_asLd, eSt, q_slT, q_tup, q_args1, q_args0, q_ix, q_ixT, ea, eRws, q_C, q_allD1, q_allD0, q_addT, q_addI, cut_tail, ei, cut_head, cut_from]
    have ed : (PyData.tuple ((st.map eRws).take i ++ [PyData.tuple ((st[i].map eRw).drop 1)] ++ (st.map eRws).drop (i + 1))) = eSt (st.take i ++ [st[i].drop 1] ++ st.drop (i + 1)) := by
      rw [← put_data]
      simp [eRws, List.map_drop]
    refine ⟨by rw [sz_eq]; simp; omega, by rw [sz_eq]; simp; omega, trivial, ?_⟩
    rw [ed, sq_nx]
    show wIf _ _ _ _ [some (.o (.ref b)), s1, s2, s3, s4, s5, some (.d (.list (pool.map .int))), some (.d (eSt st)), some (.d (eSt (st.take i ++ [st[i].drop 1] ++ st.drop (i + 1)))), s9, some (.d (.int (i : Int))), s11, s12, s13, s14]
    simp only [q_if, q_andT, q_opT, q_blt, q_args1, q_args0, q_ix, q_var, q_slot7, q_slot10, q_onD, q_asLd, eSt, q_ixT, ea, eRws, q_one, q_lenT, q_C, q_gt, q_asB, List.length_map]
    cases z1 : decide ((0 : Int) < (st[i].length : Int)) with
    | false => exact h _ o1 _ _
    | true =>
      have hrow : 0 < st[i].length := by have := of_decide_eq_true z1; omega
      simp only [q_call, q_args1, q_args0, q_var, q_slot0, q_C]
      refine ⟨by simp, 3, rfl, by omega, fun c hc => ⟨trivial, ?_⟩⟩
      simp only [q_onD, q_gt, q_asB]
      cases z2 : decide ((0 : Int) < (c : Int)) with
      | false => exact h _ o1 _ _
      | true =>
        have hpl : 0 < pool.length := List.length_pos_iff.mpr hp
        have e0 : atI (st[i].map eRw) 0 = some (eRw st[i][0]) := by
          have := DL.atI_nat (xs := st[i].map eRw) (n := 0) (by simpa using hrow)
          simpa [hrow] using this
        have gt := hF A.tabs[i] (List.getElem_mem hit)
        have g0 := gr.2 st[i][0] (List.getElem_mem hrow)
        simp only [q_seq, q_set, q_blt, q_args1, q_args0, q_lc, q_seqE, q_ix, q_var, q_slot7, q_slot10, q_onD, q_asLd, q_ixT, ea, eRws, q_C, e0, eRw, q_seqT]
        refine lcW_nd PyData.int (fun _ : Int => True) PyData.int st[i][0] [] (fun x hx Q' q => ?_) (by rw [sz_eq]; simp; omega) fun row hrl _ => ?_
        · rw [q_bindN]
          show wIx _ _ [some (.o (.ref b)), s1, s2, s3, s4, s5, some (.d (.list (pool.map .int))), some (.d (eSt st)), some (.d (eSt (st.take i ++ [st[i].drop 1] ++ st.drop (i + 1)))), s9, some (.d (.int (i : Int))), s11, s12, s13, some (.d (.int x))] _
          simp only [q_ix, q_lst, q_args1, q_args0, q_var, q_slot14, q_slot6, q_call, q_slot0, q_blt, q_one, q_asLd, q_lenL, List.length_map]
          refine ⟨by simp, pool.length, rfl, by omega, fun j hj => ⟨trivial, ?_⟩⟩
          have hj : j < pool.length := by omega
          have ej : atI (pool.map PyData.int) (j : Int) = some (.int pool[j]) := by rw [DL.atI_nat (by simpa using hj)]; simp [hj]
          simp only [q_onD, q_asLd, q_ixL, ej, q_allD1, q_allD0, q_C]
          refine ⟨by simp, 3, rfl, by omega, fun c hc => ⟨trivial, ?_⟩⟩
          simp only [q_onD, q_ixL]
          have : c = 0 ∨ c = 1 ∨ c = 2 := by omega
          rcases this with rfl | rfl | rfl
          · exact q x trivial
          · exact q x trivial
          · exact q _ trivial
        · simp only [List.nil_append, q_one, q_asLd, q_tupL]
          refine ⟨trivial, ?_⟩
          rw [sq_nx]
          have hrows : ∀ r ∈ st[i].drop 1 ++ [row], r.length = A.tabs[i].flds.length := fun r hr => by
            rcases List.mem_append.mp hr with hr | hr
            · exact gr.2 r (List.mem_of_mem_drop hr)
            · rw [List.mem_singleton.mp hr, hrl]; exact g0
          obtain ⟨rs, pm, es⟩ := srt_rows (st[i].drop 1 ++ [row])
          have es : ((st[i].drop 1 ++ [row]).map eRw).mergeSort (PySem.W.dataLe false id) = rs.map eRw := es
          have o2 := (h1.le (show 5 ≤ 1000 by omega)).put ht (rs := rs) (by rw [pm.length_eq, List.length_append, List.length_drop]; simp; omega) fun r hr => hrows r (pm.mem_iff.mp hr)
          show wSet _ _ _ [some (.o (.ref b)), s1, s2, s3, s4, s5, some (.d (.list (pool.map .int))), some (.d (eSt st)), some (.d (eSt (st.take i ++ [st[i].drop 1] ++ st.drop (i + 1)))), s9, some (.d (.int (i : Int))), s11, some (.d (eRw row)), s13, s14]
          have e3 : addF (PyData.tuple ((st[i].map eRw).drop 1)) (.tuple [eRw row]) = fun Q => st[i].length - 1 + 1 ≤ sizeLine ∧ Q (.tuple ((st[i].drop 1 ++ [row]).map eRw)) := by
            funext Q
            simp
          simp only [q_set, q_op, q_sl, q_partN, q_partS, q_var, q_slot7, q_slot10, q_onD, q_asLd, eSt, q_slT, q_tup, q_args1, q_args0, q_blt, q_ix, q_ixT, ea, eRws, q_C, q_slot12, q_allD1, q_allD0, cut_tail, e3, q_one, ei, cut_head, cut_from, q_addI]
          refine ⟨by rw [sz_eq]; omega, sorts_rows _ _ hrows, ?_⟩
          have ed2 : (PyData.tuple ((st.map eRws).take i ++ [PyData.tuple (rs.map eRw)] ++ (st.map eRws).drop (i + 1))) = eSt (st.take i ++ [rs] ++ st.drop (i + 1)) := put_data st i rs
          rw [es]
          simp only [q_tupL, q_onD, q_allD1, q_allD0, q_addT, q_addI, ei, cut_from]
          refine ⟨by rw [sz_eq]; simp; omega, by rw [sz_eq]; simp; omega, trivial, ?_⟩
          rw [ed2]
          exact h _ o2 _ _
end
end K85

set_option maxRecDepth 100000
set_option maxHeartbeats 1000000
namespace K85
open PySem L2 DL
abbrev b_role (b : Addr) : SW := (wSeq (wSet 4 (wBlt (one tupF) [(wLc (wSeqE (wIx (wVar 3) (wC (.int 1)))) (.nm 13) wYes (wIx (wLst [(wC (.int 1)), (wC (.int 2)), (wC (.int 9)), (wNeg (wC (.int 3)))]) (wCall (sp__law_bale b) [(wVar 0), (wC (.int 4))])) [13])]))
      (wSeq (wSet 5 (wTup [(wIx (wVar 3) (wC (.int 0))), (wVar 4)]))
      (wSeq (wSet 6 (wOp addF (wBlt (one listF) [(wVar 4)]) (wLst [(wC (.int 1)), (wC (.int 2)), (wC (.int 4)), (wC (.int 5)), (wOp powF (wC (.int 10)) (wC (.int 9))), (wNeg (wC (.int 3)))])))
      (wSeq (wSet 7 (wCall (sp__law_store b) [(wVar 0), (wVar 1), (wVar 6), (wC (.int 5))]))
      (wSeq (wSet 8 (wCall (sp__law_store b) [(wVar 0), (wVar 1), (wVar 6), (wC (.int 2))]))
      (wSeq (wIf (wOpT eqF (wCall (sp__law_bale b) [(wVar 0), (wC (.int 2))]) (wC (.int 0))) (wSeq (wSet 10 (wCall (sp__law_bale b) [(wVar 0), (wBlt (one lenF) [(wVar 7)])]))
        (wSeq (wSet 8 (wOp addF (wOp addF (wSl (wVar 7) none (some (wVar 10))) (wTup [(wSl (wIx (wVar 7) (wVar 10)) (some (wC (.int 1))) none)])) (wSl (wVar 7) (some (wOp addF (wVar 10) (wC (.int 1)))) none)))
        (wIf (wAndT (wOpT gtF (wBlt (one lenF) [(wIx (wVar 7) (wVar 10))]) (wC (.int 0))) (wOpT gtF (wCall (sp__law_bale b) [(wVar 0), (wC (.int 3))]) (wC (.int 0)))) (wSeq (wSet 12 (wBlt (one tupF) [(wLc (wSeqE (wIx (wIx (wVar 7) (wVar 10)) (wC (.int 0)))) (.nm 14) wYes (wIx (wLst [(wVar 14), (wVar 14), (wIx (wVar 6) (wCall (sp__law_bale b) [(wVar 0), (wBlt (one lenF) [(wVar 6)])]))]) (wCall (sp__law_bale b) [(wVar 0), (wC (.int 3))])) [14])]))
          (wSet 8 (wOp addF (wOp addF (wSl (wVar 7) none (some (wVar 10))) (wTup [(wBlt (one tupF) [(wBlt (one sortedF) [(wOp addF (wSl (wIx (wVar 7) (wVar 10)) (some (wC (.int 1))) none) (wTup [(wVar 12)]))])])])) (wSl (wVar 7) (some (wOp addF (wVar 10) (wC (.int 1)))) none)))) wNil))) wNil)
      (wFor (wSeqI (wTup [(wVar 1), (wVar 2)])) (.nm 9)
        (wSeq (wSet 11 (wTup [(wCall sp__law_sight [(wVar 9), (wVar 5), (wVar 7)]), (wCall sp__law_sight [(wVar 9), (wVar 5), (wVar 8)])]))
        (wSeq (wIf (wOrT (wNotT (wTru (wCall sp__law_same [(wCall sp_sight_of [(wVar 9), (wVar 5), (wVar 7)]), (wIx (wVar 11) (wC (.int 0)))]))) (wNotT (wTru (wCall sp__law_same [(wCall sp_sight_of [(wVar 9), (wVar 5), (wVar 8)]), (wIx (wVar 11) (wC (.int 1)))])))) (wRet (wC (.bool false))) wNil)
        (wIf (wNotT (wTru (wCall sp__law_same [(wCall sp_are_alike [(wVar 9), (wVar 5), (wVar 7), (wVar 8)]), (wOp eqF (wIx (wVar 11) (wC (.int 0))) (wIx (wVar 11) (wC (.int 1))))]))) (wRet (wC (.bool false))) wNil))))))))))
theorem fin__law_sights_right (b : Addr) (xs : List DV) (R : DV → Prop) (h : sp__law_sights_right b xs R) : w__law_sights_right b { nx := fun _ => R (.d .none), rt := R } (startE 15 xs) := by
  obtain ⟨A, rfl, G, F, hT, hR⟩ := h
  have main : ∀ (D : DEnds) (hnx : ∀ en, D.nx en) (rs : List Rol) (s3 s4 s5 s6 s7 s8 s9 s10 s11 s12 s13 s14 : Option DV), (∀ r ∈ rs, r ∈ A.rols) →
      loopW (.nm 3) (b_role b) D (rs.map eRol) [some (.o (.ref b)), some (.d (eApp A)), some (.d (eApp (trimA A))), s3, s4, s5, s6, s7, s8, s9, s10, s11, s12, s13, s14] := by
    intro D hnx rs
    induction rs with
    | nil => intro s3 s4 s5 s6 s7 s8 s9 s10 s11 s12 s13 s14 _; exact hnx _
    | cons r rs ih =>
      intro s3 s4 s5 s6 s7 s8 s9 s10 s11 s12 s13 s14 hm
      have hr := hm r (by simp)
      rw [List.map_cons, q_loop1, q_bindN]
      show b_role b _ [some (.o (.ref b)), some (.d (eApp A)), some (.d (eApp (trimA A))), some (.d (.tuple [.str r.name, .tuple (r.badge.map .str), .tuple (r.wins.map eWin)])), s4, s5, s6, s7, s8, s9, s10, s11, s12, s13, s14]
      unfold b_role
      rw [q_seq, q_set]
      refine badge_draw b r.badge (G.badge r hr) r.name _ _ _ _ _ _ _ _ _ _ _ _ _ _ _ fun bd hbd => ⟨trivial, ?_⟩
      rw [sq_nx]
      show wSeq _ _ _ [some (.o (.ref b)), some (.d (eApp A)), some (.d (eApp (trimA A))), some (.d (.tuple [.str r.name, .tuple (r.badge.map .str), .tuple (r.wins.map eWin)])), some (.d (eRw bd)), s5, s6, s7, s8, s9, s10, s11, s12, s13, s14]
      rw [q_seq]
      simp only [q_set, q_tup, q_args1, q_args0, q_ix, q_C, q_var, q_slot3, q_slot4, q_onD, q_asLd, q_ixT, q_at0, q_allD1, q_allD0]
      refine ⟨trivial, ?_⟩
      rw [sq_nx]
      show wSeq _ _ _ [some (.o (.ref b)), some (.d (eApp A)), some (.d (eApp (trimA A))), some (.d (.tuple [.str r.name, .tuple (r.badge.map .str), .tuple (r.wins.map eWin)])), some (.d (.tuple (bd.map .int))), some (.d (ePer ⟨r.name, bd⟩)), s6, s7, s8, s9, s10, s11, s12, s13, s14]
      rw [q_seq]
      simp only [q_set, q_op, q_blt, q_lst, q_args1, q_args0, q_C, q_var, q_slot4, q_one, q_asLd, q_listT, q_onD, q_pow, q_neg, q_negF, q_allD1, q_allD0, q_addL]
      refine ⟨⟨by omega, by omega, by decide⟩, by rw [sz_eq]; have := G.badge r hr; simp; omega, trivial, ?_⟩
      have ep : ∃ pool : List Int, pool ≠ [] ∧ (bd.map PyData.int ++ [.int 1, .int 2, .int 4, .int 5, .int (10 ^ (9 : Int).toNat), .int (-3)]) = pool.map .int := ⟨bd ++ [1, 2, 4, 5, 10 ^ (9 : Int).toNat, -3], by simp, by simp⟩
      obtain ⟨pool, hp, ep⟩ := ep
      rw [ep, sq_nx]
      show wSeq _ _ _ [some (.o (.ref b)), some (.d (eApp A)), some (.d (eApp (trimA A))), some (.d (.tuple [.str r.name, .tuple (r.badge.map .str), .tuple (r.wins.map eWin)])), some (.d (.tuple (bd.map .int))), some (.d (ePer ⟨r.name, bd⟩)), some (.d (.list (pool.map .int))), s7, s8, s9, s10, s11, s12, s13, s14]
      rw [q_seq]
      simp only [q_set, q_call, q_args1, q_args0, q_C, q_var, q_slot0, q_slot1, q_slot6]
      refine ⟨by simp, A, pool, 5, rfl, hp, by omega, by omega, G.tabs, G.flds, fun st hst => ⟨trivial, trivial, ?_⟩⟩
      rw [sq_nx]
      show wSeq _ _ _ [some (.o (.ref b)), some (.d (eApp A)), some (.d (eApp (trimA A))), some (.d (.tuple [.str r.name, .tuple (r.badge.map .str), .tuple (r.wins.map eWin)])), some (.d (.tuple (bd.map .int))), some (.d (ePer ⟨r.name, bd⟩)), some (.d (.list (pool.map .int))), some (.d (eSt st)), s8, s9, s10, s11, s12, s13, s14]
      rw [q_seq]
      simp only [q_set, q_call, q_args1, q_args0, q_C, q_var, q_slot0, q_slot1, q_slot6]
      refine ⟨by simp, A, pool, 2, rfl, hp, by omega, by omega, G.tabs, G.flds, fun ot hot => ⟨trivial, trivial, ?_⟩⟩
      rw [sq_nx]
      show wSeq _ _ _ [some (.o (.ref b)), some (.d (eApp A)), some (.d (eApp (trimA A))), some (.d (.tuple [.str r.name, .tuple (r.badge.map .str), .tuple (r.wins.map eWin)])), some (.d (.tuple (bd.map .int))), some (.d (ePer ⟨r.name, bd⟩)), some (.d (.list (pool.map .int))), some (.d (eSt st)), some (.d (eSt ot)), s9, s10, s11, s12, s13, s14]
      rw [q_seq]
      have last : ∀ ot, StOk 1000 A.tabs ot → ∀ s10 s12, (wFor (wSeqI (wTup [(wVar 1), (wVar 2)])) (.nm 9) b_s9) (D.lp (loopW (.nm 3) (b_role b) D (rs.map eRol))) [some (.o (.ref b)), some (.d (eApp A)), some (.d (eApp (trimA A))), some (.d (.tuple [.str r.name, .tuple (r.badge.map .str), .tuple (r.wins.map eWin)])), some (.d (.tuple (bd.map .int))), some (.d (ePer ⟨r.name, bd⟩)), some (.d (.list (pool.map .int))), some (.d (eSt st)), some (.d (eSt ot)), s9, s10, s11, s12, s13, s14] := by
        intro ot hot s10 s12
        refine s9_both G F hr hbd (hst.le (by omega)) hot _ _ _ _ _ _ _ _ _ _ fun s9 s11 => ?_
        rw [lp_nx]
        exact ih _ _ _ _ _ _ _ _ _ _ _ _ (fun x hx => hm x (by simp [hx]))
      refine put_one hp hst hT G.tabs G.flds _ _ _ _ _ _ _ _ _ _ _ _ (fun s10 s12 => ?_) (fun ot hot s10 s12 => ?_)
      · exact last ot (hot.le (by omega)) s10 s12
      · exact last ot hot s10 s12
  simp only [w__law_sights_right, startE, q_seq]
  show wFor _ _ _ _ [some (.o (.ref b)), some (.d (eApp A)), some (.d (eApp (trimA A))), none, none, none, none, none, none, none, none, none, none, none, none]
  simp only [q_for, q_seqI, q_ix, q_var, q_slot1, q_C, q_onD, q_asLd]
  show ixF (eApp A) _ _
  simp only [eApp, q_ixT, q_at1, q_seqT]
  exact main _ (fun en => hR) A.rols _ _ _ _ _ _ _ _ _ _ _ _ (fun r h => h)
end K85

set_option maxRecDepth 100000
set_option maxHeartbeats 1000000
namespace K85
open PySem L2 DL
abbrev sp__law_app (b : Addr) : SpD := fun xs Q => xs = [.o (.ref b)] ∧ ∀ A : App, A.good → A.fits → A.tabs ≠ [] → Q (.d (eApp A))
/-! _law_app(barn): slots 0 barn, 1 tables, 2 at, 3 roles, 4 asks, 5 badge, 6 windows, 7 table, 8 fields, 9 lot, 10 lots, 11 shown, 12 field, 13 place; calls _law_bale, _law_door, _law_lot, _law_second -/
def w__law_app (b : Addr) : SW :=
    (wSeq (wOwn 1 [])
    (wSeq (wFor (wRng1 (wOp addF (wC (.int 1)) (wCall (sp__law_door b) [(wVar 0), (wC (.int 2)), (wC (.int 4))]))) (.nm 2)
      (wApp 1 (wTup [(wOp addF (wC (.str "q")) (wIx (wC (.str "defg")) (wVar 2))), (wBlt (one tupF) [(wLc (wRng1 (wOp addF (wC (.int 1)) (wCall (sp__law_bale b) [(wVar 0), (wC (.int 3))]))) (.nm 12) wYes (wOp addF (wC (.str "w")) (wIx (wC (.str "abc")) (wVar 12))) [12])])])))
    (wFrz 1 (wSeq (wOwn 3 [])
    (wSeq (wOwn 4 [])
    (wSeq (wFor (wRng1 (wOp addF (wC (.int 1)) (wCall (sp__law_door b) [(wVar 0), (wC (.int 3)), (wC (.int 4))]))) (.nm 2)
      (wSeq (wSet 5 (wCall (sp__law_door b) [(wVar 0), (wC (.int 4)), (wC (.int 4))]))
      (wSeq (wOwn 6 [])
      (wSeq (wFor (wSeqI (wVar 1)) (.tp [7, 8])
        (wSeq (wSet 9 (wCall (sp__law_lot b) [(wVar 0), (wBlt (one lenF) [(wVar 8)]), (wVar 5), (wCall (sp__law_door b) [(wVar 0), (wC (.int 5)), (wC (.int 4))])]))
        (wSeq (wSet 10 (wIx (wLst [(wTup [(wVar 9)]), (wTup [(wVar 9), (wCall (sp__law_second b) [(wVar 0), (wVar 9), (wBlt (one lenF) [(wVar 8)]), (wVar 5)])])]) (wBlt (one intF) [(wOp gtF (wCall (sp__law_bale b) [(wVar 0), (wC (.int 4))]) (wC (.int 0)))])))
        (wSeq (wIf (wOpT eqF (wCall (sp__law_bale b) [(wVar 0), (wC (.int 9))]) (wC (.int 0))) (wSet 10 (wOp addF (wTup [(wTup [(wTup [(wC (.str "=")), (wC (.int 0)), (wTup [(wC (.str "c")), (wC (.int 1))])]), (wTup [(wC (.str "!")), (wC (.int 0)), (wTup [(wC (.str "c")), (wC (.int 1))])])])]) (wSl (wVar 10) (some (wC (.int 1))) none))) wNil)
        (wSeq (wSet 11 (wBlt (one tupF) [(wLc (wRng1 (wBlt (one lenF) [(wVar 8)])) (.nm 12) (wOpT eqF (wCall (sp__law_bale b) [(wVar 0), (wC (.int 2))]) (wC (.int 0))) (wVar 12) [12])]))
        (wSeq (wIf (wOpT gtF (wCall (sp__law_bale b) [(wVar 0), (wC (.int 6))]) (wC (.int 0))) (wApp 6 (wTup [(wVar 7), (wStep (wVar 10) (wOp subF (wC (.int 1)) (wOp mulF (wC (.int 2)) (wCall (sp__law_bale b) [(wVar 0), (wC (.int 2))])))), (wVar 11)])) wNil)
        (wIf (wOpT ltF (wBlt (one lenF) [(wVar 4)]) (wC (.int 8))) (wApp 4 (wTup [(wOp addF (wC (.str "y")) (wIx (wC (.str "abcdefgh")) (wBlt (one lenF) [(wVar 4)]))), (wOp addF (wC (.str "x")) (wIx (wC (.str "klmn")) (wVar 2))), (wTup []), (wTup [(wVar 7)]), (wC .none), (wTup []), (wTup [(wC (.str "count"))])])) wNil)))))))
      (wFrz 6 (wApp 3 (wTup [(wOp addF (wC (.str "x")) (wIx (wC (.str "klmn")) (wVar 2))), (wBlt (one tupF) [(wLc (wRng1 (wVar 5)) (.nm 13) wYes (wOp addF (wC (.str "z")) (wIx (wC (.str "abc")) (wVar 13))) [13])]), (wBlt (one tupF) [(wStep (wVar 6) (wNeg (wC (.int 1))))])])))))))
    (wFrz 3 (wFrz 4 (wRet (wTup [(wBlt (one tupF) [(wVar 1)]), (wBlt (one tupF) [(wVar 3)]), (wBlt (one tupF) [(wVar 4)]), (wTup [])]))))))))))
/-! ### names by their places -/
def nm (p z : Str) (i : Nat) : Str := p ++ ⟨#[z.cps.toList.getD i 0]⟩
theorem nm_run (p z : Str) (we : EW) (i : Nat) (en : En) (Q : DV → Prop) (hw : ∀ Q : DV → Prop, Q (.d (.int i)) → we en Q) (hi : i < z.cps.toList.length) (hz : z.length ≤ 100) (hp : p.length ≤ 100) (h : Q (.d (.str (nm p z i)))) :
    wOp addF (wC (.str p)) (wIx (wC (.str z)) we) en Q := by
  simp only [q_op, q_C, q_onD, q_ix]
  refine hw _ ?_
  simp only [q_onD, q_asLd, q_ixS]
  refine ⟨by rw [sz_eq]; omega, ?_⟩
  have e : atI z.cps.toList (i : Int) = some (z.cps.toList.getD i 0) := by
    rw [DL.atI_nat hi, List.getElem?_eq_getElem hi]
    simp [List.getD, List.getElem?_eq_getElem hi]
  rw [e]
  simp only [q_onD, q_addS]
  refine ⟨?_, h⟩
  have : (⟨#[z.cps.toList.getD i 0]⟩ : Str).length = 1 := rfl
  rw [this, sz_eq]
  omega
theorem rng_eq (k : Nat) : rngD 0 k = (List.range' 0 k).map fun (j : Nat) => PyData.int (0 + (j : Int)) := by simp [rngD, List.range_eq_range']
theorem rng_eq0 (k : Nat) : rngD 0 k = (List.range k).map fun (j : Nat) => PyData.int (0 + (j : Int)) := by simp [rngD]
theorem z_add (i : Nat) : (0 + (i : Int)) = (i : Int) := by omega
theorem nd_names (p z : Str) (n k : Nat) (hk : k ≤ n) (h : ((List.range n).map (nm p z)).Nodup) : ((List.range k).map (nm p z)).Nodup := by
  have e : List.range k = (List.range n).take k := by rw [List.take_range, Nat.min_eq_left hk]
  rw [e, List.map_take]
  exact (List.take_sublist _ _).nodup h
theorem nd_q : ((List.range 4).map (nm "q" "defg")).Nodup := by decide +kernel
theorem nd_x : ((List.range 4).map (nm "x" "klmn")).Nodup := by decide +kernel
theorem nd_y : ((List.range 8).map (nm "y" "abcdefgh")).Nodup := by decide +kernel
theorem ok_q : ∀ i, i < 4 → PyData.strOk (nm "q" "defg" i) = true := by decide +kernel
/-! ### tables -/
structure TOk (ts : List Tbl) : Prop where
  len : ts.length ≤ 4
  nms : ts.map (·.name) = (List.range ts.length).map (nm "q" "defg")
  flds : ∀ t ∈ ts, 0 < t.flds.length ∧ t.flds.length ≤ 3
theorem TOk.nd {ts : List Tbl} (h : TOk ts) : (ts.map (·.name)).Nodup := by rw [h.nms]; exact nd_names _ _ 4 _ h.len nd_q
abbrev b_tab (b : Addr) : SW := (wApp 1 (wTup [(wOp addF (wC (.str "q")) (wIx (wC (.str "defg")) (wVar 2))), (wBlt (one tupF) [(wLc (wRng1 (wOp addF (wC (.int 1)) (wCall (sp__law_bale b) [(wVar 0), (wC (.int 3))]))) (.nm 12) wYes (wOp addF (wC (.str "w")) (wIx (wC (.str "abc")) (wVar 12))) [12])])]))
theorem tab_one (b : Addr) (D : DEnds) (i : Nat) (hi : i < 4) (ts : List Tbl) (hl : ts.length ≤ 4) (s3 s4 s5 s6 s7 s8 s9 s10 s11 s12 s13 : Option DV)
    (h : ∀ fs : List Str, 0 < fs.length → fs.length ≤ 3 → D.nx [some (.o (.ref b)), some (.l ((ts ++ [(⟨nm "q" "defg" i, fs⟩ : Tbl)]).map eTbl)), some (.d (.int i)), s3, s4, s5, s6, s7, s8, s9, s10, s11, s12, s13]) :
    b_tab b D [some (.o (.ref b)), some (.l (ts.map eTbl)), some (.d (.int i)), s3, s4, s5, s6, s7, s8, s9, s10, s11, s12, s13] := by
  unfold b_tab
  rw [q_app, q_slot1]
  simp only [q_tup, q_args1, q_args0]
  refine nm_run "q" "defg" _ i _ _ (fun Q q => by simp only [q_var, q_slot2]; exact q) (by show i < 4; exact hi) (by decide) (by decide) ?_
  simp only [q_blt, q_args1, q_args0, q_lc, q_rng1, q_op, q_C, q_onD, q_call, q_var, q_slot0]
  refine ⟨by simp, 3, rfl, by omega, fun r hr => ⟨trivial, ?_⟩⟩
  simp only [q_onD, q_addI]
  refine ⟨⟨by omega, by omega⟩, ?_⟩
  have er : ((1 : Int) + (r : Int)).toNat = r + 1 := by omega
  rw [er, rng_eq0]
  refine lcW_map (fun (j : Nat) => PyData.int (0 + (j : Int))) (fun j => PyData.str (nm "w" "abc" j)) _ (fun j hj Q q => ?_) (by rw [sz_eq]; simp; omega) ?_
  · rw [q_bindN]
    have hj : j < r + 1 := List.mem_range.mp hj
    refine nm_run "w" "abc" _ j _ _ (fun Q q => ?_) (by show j < 3; omega) (by decide) (by decide) ?_
    · show wVar 12 [some (.o (.ref b)), some (.l (ts.map eTbl)), some (.d (.int i)), s3, s4, s5, s6, s7, s8, s9, s10, s11, some (.d (.int (0 + (j : Int)))), s13] Q
      simp only [q_var, q_slot12, z_add]
      exact q
    · exact q
  · simp only [q_one, q_asLd, q_tupL, q_onD, q_allD1, q_allD0]
    refine ⟨by rw [sz_eq]; simp; omega, ?_⟩
    have := h ((List.range (r + 1)).map (nm "w" "abc")) (by simp) (by simp; omega)
    simpa [eTbl, List.map_map, Function.comp_def] using this
theorem tabs_loop (b : Addr) (D : DEnds) (s3 s4 s5 s6 s7 s8 s9 s10 s11 s12 s13 : Option DV) : ∀ (k i : Nat) (ts : List Tbl) (s2 : Option DV), i + k ≤ 4 → ts.length = i → TOk ts →
    (∀ ts' s2, TOk ts' → ts'.length = i + k → D.nx [some (.o (.ref b)), some (.l (ts'.map eTbl)), s2, s3, s4, s5, s6, s7, s8, s9, s10, s11, s12, s13]) →
    loopW (.nm 2) (b_tab b) D ((List.range' i k).map fun (j : Nat) => PyData.int (0 + (j : Int))) [some (.o (.ref b)), some (.l (ts.map eTbl)), s2, s3, s4, s5, s6, s7, s8, s9, s10, s11, s12, s13]
  | 0, i, ts, s2, _, hl, hT, h => h ts s2 hT hl
  | k + 1, i, ts, s2, hk, hl, hT, h => by
    rw [List.range'_succ, List.map_cons, q_loop1, q_bindN, z_add]
    refine tab_one b _ i (by omega) ts (by omega) _ _ _ _ _ _ _ _ _ _ _ fun fs h0 h3 => ?_
    rw [lp_nx]
    refine tabs_loop b D s3 s4 s5 s6 s7 s8 s9 s10 s11 s12 s13 k (i + 1) _ _ (by omega) (by simp; omega) ⟨by simp; omega, ?_, fun t ht => ?_⟩ fun ts' s2 g1 g2 => h ts' s2 g1 (by omega)
    · simp only [List.map_append, List.map_cons, List.map_nil, List.length_append, List.length_cons, List.length_nil, Nat.zero_add, List.range_succ, hT.nms, hl]
    · rcases List.mem_append.mp ht with ht | ht
      · exact hT.flds t ht
      · rw [List.mem_singleton.mp ht]; exact ⟨h0, h3⟩
/-! ### windows, asks -/
def WOk (ts : List Tbl) (nb : Nat) (ws : List Win) : Prop := ∀ w ∈ ws, w.ok ∧ ∃ t ∈ ts, t.name = w.tbl ∧ w.fit t.flds.length nb
structure AOk (at_ : Nat) (ts : List Tbl) (as : List Ask) : Prop where
  len : as.length ≤ 8
  nms : as.map (·.name) = (List.range as.length).map (nm "y" "abcdefgh")
  rol : ∀ a ∈ as, ∃ j, j ≤ at_ ∧ a.role = nm "x" "klmn" j
  tab : ∀ a ∈ as, ∃ t ∈ ts, t.name = a.tbl
structure LOk (nf nb : Nat) (L : List Lot) : Prop where
  one : 1 ≤ L.length
  two : L.length ≤ 2
  lot : ∀ l ∈ L, l.length ≤ 4
  fit : ∀ l ∈ L, Lot.fit nf nb l
abbrev b_ask : SW := (wIf (wOpT ltF (wBlt (one lenF) [(wVar 4)]) (wC (.int 8))) (wApp 4 (wTup [(wOp addF (wC (.str "y")) (wIx (wC (.str "abcdefgh")) (wBlt (one lenF) [(wVar 4)]))), (wOp addF (wC (.str "x")) (wIx (wC (.str "klmn")) (wVar 2))), (wTup []), (wTup [(wVar 7)]), (wC .none), (wTup []), (wTup [(wC (.str "count"))])])) wNil)
abbrev b_win1 (b : Addr) : SW := (wSeq (wSet 11 (wBlt (one tupF) [(wLc (wRng1 (wBlt (one lenF) [(wVar 8)])) (.nm 12) (wOpT eqF (wCall (sp__law_bale b) [(wVar 0), (wC (.int 2))]) (wC (.int 0))) (wVar 12) [12])]))
        (wSeq (wIf (wOpT gtF (wCall (sp__law_bale b) [(wVar 0), (wC (.int 6))]) (wC (.int 0))) (wApp 6 (wTup [(wVar 7), (wStep (wVar 10) (wOp subF (wC (.int 1)) (wOp mulF (wC (.int 2)) (wCall (sp__law_bale b) [(wVar 0), (wC (.int 2))])))), (wVar 11)])) wNil)
        (wIf (wOpT ltF (wBlt (one lenF) [(wVar 4)]) (wC (.int 8))) (wApp 4 (wTup [(wOp addF (wC (.str "y")) (wIx (wC (.str "abcdefgh")) (wBlt (one lenF) [(wVar 4)]))), (wOp addF (wC (.str "x")) (wIx (wC (.str "klmn")) (wVar 2))), (wTup []), (wTup [(wVar 7)]), (wC .none), (wTup []), (wTup [(wC (.str "count"))])])) wNil)))
abbrev b_win (b : Addr) : SW := (wSeq (wSet 9 (wCall (sp__law_lot b) [(wVar 0), (wBlt (one lenF) [(wVar 8)]), (wVar 5), (wCall (sp__law_door b) [(wVar 0), (wC (.int 5)), (wC (.int 4))])]))
        (wSeq (wSet 10 (wIx (wLst [(wTup [(wVar 9)]), (wTup [(wVar 9), (wCall (sp__law_second b) [(wVar 0), (wVar 9), (wBlt (one lenF) [(wVar 8)]), (wVar 5)])])]) (wBlt (one intF) [(wOp gtF (wCall (sp__law_bale b) [(wVar 0), (wC (.int 4))]) (wC (.int 0)))])))
        (wSeq (wIf (wOpT eqF (wCall (sp__law_bale b) [(wVar 0), (wC (.int 9))]) (wC (.int 0))) (wSet 10 (wOp addF (wTup [(wTup [(wTup [(wC (.str "=")), (wC (.int 0)), (wTup [(wC (.str "c")), (wC (.int 1))])]), (wTup [(wC (.str "!")), (wC (.int 0)), (wTup [(wC (.str "c")), (wC (.int 1))])])])]) (wSl (wVar 10) (some (wC (.int 1))) none))) wNil)
        (b_win1 b))))
section
variable {b : Addr} {D : DEnds} {ts : List Tbl} {i nb : Nat} {t : Tbl}
/-- the ask of a table -/
theorem ask_one (hi : i < 4) (ht : t ∈ ts) (as : List Ask) (hA : AOk i ts as) (s1 s3 s5 s6 s8 s9 s10 s11 s12 s13 : Option DV)
    (h : ∀ as', AOk i ts as' → D.nx [some (.o (.ref b)), s1, some (.d (.int i)), s3, some (.l (as'.map eAsk)), s5, s6, some (.d (.str t.name)), s8, s9, s10, s11, s12, s13]) :
    (wIf (wOpT ltF (wBlt (one lenF) [(wVar 4)]) (wC (.int 8))) (wApp 4 (wTup [(wOp addF (wC (.str "y")) (wIx (wC (.str "abcdefgh")) (wBlt (one lenF) [(wVar 4)]))), (wOp addF (wC (.str "x")) (wIx (wC (.str "klmn")) (wVar 2))), (wTup []), (wTup [(wVar 7)]), (wC .none), (wTup []), (wTup [(wC (.str "count"))])])) wNil) D
      [some (.o (.ref b)), s1, some (.d (.int i)), s3, some (.l (as.map eAsk)), s5, s6, some (.d (.str t.name)), s8, s9, s10, s11, s12, s13] := by
  simp only [q_if, q_opT, q_blt, q_args1, q_args0, q_var, q_slot4, q_one, q_asLl, q_lenL, q_onD, q_C, q_lt, q_asB, List.length_map]
  cases z : decide ((as.length : Int) < 8) with
  | false => exact h as hA
  | true =>
    have hl : as.length < 8 := by have := of_decide_eq_true z; omega
    show wApp _ _ _ _
    rw [q_app, q_slot4]
    simp only [q_tup, q_args1, q_args0]
    refine nm_run "y" "abcdefgh" _ as.length _ _ (fun Q q => by simp only [q_blt, q_args1, q_args0, q_var, q_slot4, q_one, q_asLl, q_lenL, List.length_map]; exact q) (by show as.length < 8; exact hl) (by decide) (by decide) ?_
    refine nm_run "x" "klmn" _ i _ _ (fun Q q => by simp only [q_var, q_slot2]; exact q) (by show i < 4; exact hi) (by decide) (by decide) ?_
    simp only [q_allD0, q_allD1, q_var, q_slot7, q_C, q_onD]
    refine ⟨by rw [sz_eq]; simp; omega, ?_⟩
    have := h (as ++ [⟨nm "y" "abcdefgh" as.length, nm "x" "klmn" i, t.name⟩]) ⟨by simp; omega, by simp [List.range_succ, hA.nms], fun a ha => ?_, fun a ha => ?_⟩
    · simpa [eAsk] using this
    · rcases List.mem_append.mp ha with ha | ha
      · exact hA.rol a ha
      · rw [List.mem_singleton.mp ha]; exact ⟨i, Nat.le_refl _, rfl⟩
    · rcases List.mem_append.mp ha with ha | ha
      · exact hA.tab a ha
      · rw [List.mem_singleton.mp ha]; exact ⟨t, ht, rfl⟩
/-- a window, its ask -/
theorem win_one1 (hi : i < 4) (ht : t ∈ ts) (hf : 0 < t.flds.length ∧ t.flds.length ≤ 3) (as : List Ask) (hA : AOk i ts as) (ws : List Win) (hws : WOk ts nb ws) (hwl : ws.length ≤ 100) (L : List Lot) (hL : LOk t.flds.length nb L) (s1 s3 s5 s9 s11 s12 s13 : Option DV)
    (h : ∀ as' ws' s11 s12, AOk i ts as' → WOk ts nb ws' → (ws' = ws ∨ ∃ w, w.tbl = t.name ∧ ws' = ws ++ [w]) → D.nx [some (.o (.ref b)), s1, some (.d (.int i)), s3, some (.l (as'.map eAsk)), s5, some (.l (ws'.map eWin)), some (.d (.str t.name)), some (.d (.tuple (t.flds.map .str))), s9, some (.d (.tuple (L.map eLot))), s11, s12, s13]) :
    b_win1 b D [some (.o (.ref b)), s1, some (.d (.int i)), s3, some (.l (as.map eAsk)), s5, some (.l (ws.map eWin)), some (.d (.str t.name)), some (.d (.tuple (t.flds.map .str))), s9, some (.d (.tuple (L.map eLot))), s11, s12, s13] := by
  unfold b_win1
  rw [q_seq, q_set]
  simp only [q_blt, q_args1, q_args0, q_lc, q_rng1, q_var, q_slot8, q_one, q_asLd, q_lenT, q_onD, List.length_map]
  refine ⟨⟨by omega, by omega⟩, ?_⟩
  rw [show ((t.flds.length : Int)).toNat = t.flds.length by omega, rng_eq0]
  refine lcW_sub (fun (j : Nat) => PyData.int (0 + (j : Int))) _ [] (fun j hj Q q1 q2 => ?_) (by rw [sz_eq]; simp; omega) fun xs hxs => ?_
  · rw [q_bindN]
    show wOpT _ _ _ [some (.o (.ref b)), s1, some (.d (.int i)), s3, some (.l (as.map eAsk)), s5, some (.l (ws.map eWin)), some (.d (.str t.name)), some (.d (.tuple (t.flds.map .str))), s9, some (.d (.tuple (L.map eLot))), s11, some (.d (.int (0 + (j : Int)))), s13] _
    simp only [q_opT, q_call, q_args1, q_args0, q_var, q_slot0, q_C]
    refine ⟨by simp, 2, rfl, by omega, fun c hc => ⟨trivial, ?_⟩⟩
    simp only [q_onD, q_eq, v_int, q_asB]
    refine ⟨by simp, ?_⟩
    cases z : ((c : Int) == 0) with
    | false => exact q2
    | true => exact q1
  · simp only [List.nil_append, q_one, q_asLd, q_tupL]
    refine ⟨trivial, ?_⟩
    rw [sq_nx]
    have ex : (xs.map fun (j : Nat) => PyData.int (0 + (j : Int))) = xs.map eInt := List.map_congr_left fun j _ => by rw [z_add]; rfl
    rw [ex]
    have hx : ∀ n ∈ xs, n < t.flds.length := fun n hn => List.mem_range.mp (hxs.subset hn)
    have hxl : xs.length ≤ 3 := by have := hxs.length_le; rw [List.length_range] at this; omega
    show wSeq _ _ _ [some (.o (.ref b)), s1, some (.d (.int i)), s3, some (.l (as.map eAsk)), s5, some (.l (ws.map eWin)), some (.d (.str t.name)), some (.d (.tuple (t.flds.map .str))), s9, some (.d (.tuple (L.map eLot))), some (.d (.tuple (xs.map eInt))), s12, s13]
    rw [q_seq]
    have fin : ∀ ws', WOk ts nb ws' → (ws' = ws ∨ ∃ w, w.tbl = t.name ∧ ws' = ws ++ [w]) → (D.sq (b_ask D)).nx [some (.o (.ref b)), s1, some (.d (.int i)), s3, some (.l (as.map eAsk)), s5, some (.l (ws'.map eWin)), some (.d (.str t.name)), some (.d (.tuple (t.flds.map .str))), s9, some (.d (.tuple (L.map eLot))), some (.d (.tuple (xs.map eInt))), s12, s13] := by
      intro ws' g1 g2
      rw [sq_nx]
      exact ask_one hi ht as hA _ _ _ _ _ _ _ _ _ _ fun as' ha => h as' ws' _ _ ha g1 g2
    simp only [q_if, q_opT, q_call, q_args1, q_args0, q_var, q_slot0, q_C]
    refine ⟨by simp, 6, rfl, by omega, fun c hc => ⟨trivial, ?_⟩⟩
    simp only [q_onD, q_gt, q_asB]
    cases z : decide ((0 : Int) < (c : Int)) with
    | false => exact fin ws hws (.inl rfl)
    | true =>
      show wApp _ _ _ _
      rw [q_app, q_slot6]
      simp only [q_tup, q_args1, q_args0, q_var, q_slot7, q_slot10, q_slot11, q_step, q_op, q_C, q_onD, q_call, q_slot0]
      refine ⟨by simp, 2, rfl, by omega, fun c hc => ⟨trivial, ?_⟩⟩
      simp only [q_onD, q_mul, q_sub, q_asLd]
      refine ⟨.inl ⟨by omega, by omega⟩, ?_⟩
      have done : ∀ L', LOk t.flds.length nb L' → (((ws.map eWin).length < sizeLine ∧ (D.sq (b_ask D)).nx ([some (.o (.ref b)), s1, some (.d (.int i)), s3, some (.l (as.map eAsk)), s5, some (.l (ws.map eWin ++ [.tuple [.str t.name, .tuple (L'.map eLot), .tuple (xs.map eInt)]])), some (.d (.str t.name)), some (.d (.tuple (t.flds.map .str))), s9, some (.d (.tuple (L.map eLot))), some (.d (.tuple (xs.map eInt))), s12, s13]))) := by
        intro L' g
        refine ⟨by rw [sz_eq]; simp; omega, ?_⟩
        have := fin (ws ++ [⟨t.name, L', xs⟩]) (fun w hw => ?_) (.inr ⟨_, rfl, rfl⟩)
        · simpa [eWin] using this
        · rcases List.mem_append.mp hw with hw | hw
          · exact hws w hw
          · rw [List.mem_singleton.mp hw]
            exact ⟨⟨g.one, g.two, g.lot, by show xs.length ≤ 10; omega⟩, t, ht, rfl, ⟨fun l hl k hk => g.fit l hl k hk, hx⟩⟩
      have : c = 0 ∨ c = 1 := by omega
      rcases this with rfl | rfl
      · exact .inl ⟨rfl, done L hL⟩
      · refine .inr ⟨rfl, ?_⟩
        rw [← List.map_reverse]
        exact done L.reverse ⟨by simpa using hL.one, by simpa using hL.two, fun l hl => hL.lot l (List.mem_reverse.mp hl), fun l hl => hL.fit l (List.mem_reverse.mp hl)⟩
end
end K85

set_option maxRecDepth 100000
set_option maxHeartbeats 1000000
namespace K85
open PySem L2 DL
section
variable {b : Addr} {D : DEnds} {ts : List Tbl} {i nb : Nat} {t : Tbl}
theorem win_one (hi : i < 4) (ht : t ∈ ts) (hf : 0 < t.flds.length ∧ t.flds.length ≤ 3) (hnb : nb ≤ 3) (as : List Ask) (hA : AOk i ts as) (ws : List Win) (hws : WOk ts nb ws) (hwl : ws.length ≤ 100) (s1 s3 s9 s10 s11 s12 s13 : Option DV)
    (h : ∀ as' ws' s9 s10 s11 s12, AOk i ts as' → WOk ts nb ws' → (ws' = ws ∨ ∃ w, w.tbl = t.name ∧ ws' = ws ++ [w]) → D.nx [some (.o (.ref b)), s1, some (.d (.int i)), s3, some (.l (as'.map eAsk)), some (.d (.int nb)), some (.l (ws'.map eWin)), some (.d (.str t.name)), some (.d (.tuple (t.flds.map .str))), s9, s10, s11, s12, s13]) :
    b_win b D [some (.o (.ref b)), s1, some (.d (.int i)), s3, some (.l (as.map eAsk)), some (.d (.int nb)), some (.l (ws.map eWin)), some (.d (.str t.name)), some (.d (.tuple (t.flds.map .str))), s9, s10, s11, s12, s13] := by
  unfold b_win
  rw [q_seq, q_set]
  simp only [q_call, q_blt, q_args1, q_args0, q_var, q_slot0, q_slot8, q_slot5, q_one, q_asLd, q_lenT, q_C, List.length_map]
  refine ⟨by simp, 5, 4, rfl, by omega, by omega, by omega, fun r hr => ⟨trivial, by simp, t.flds.length, nb, r, rfl, hf.1, by omega, fun l hl hlf => ⟨trivial, trivial, ?_⟩⟩⟩
  rw [sq_nx]
  show wSeq _ _ _ [some (.o (.ref b)), s1, some (.d (.int i)), s3, some (.l (as.map eAsk)), some (.d (.int nb)), some (.l (ws.map eWin)), some (.d (.str t.name)), some (.d (.tuple (t.flds.map .str))), some (.d (eLot l)), s10, s11, s12, s13]
  rw [q_seq]
  simp only [q_set, q_ix, q_lst, q_tup, q_call, q_blt, q_args1, q_args0, q_var, q_slot0, q_slot8, q_slot5, q_slot9, q_one, q_asLd, q_lenT, q_C, List.length_map, q_allD1, q_allD0]
  refine ⟨by simp, l, t.flds.length, nb, rfl, hf.1, by omega, hlf, fun m hm hmf => ⟨trivial, ?_⟩⟩
  simp only [q_allD1, q_allD0, q_op, q_call, q_args1, q_args0, q_var, q_slot0, q_C]
  refine ⟨by simp, 4, rfl, by omega, fun c hc => ⟨trivial, ?_⟩⟩
  simp only [q_onD, q_gt, q_one, q_asLd, q_intB, q_ixL]
  have main : ∀ L : List Lot, LOk t.flds.length nb L → noL (.d (.tuple (L.map eLot))) ∧ (D.sq ((wSeq (wIf (wOpT eqF (wCall (sp__law_bale b) [(wVar 0), (wC (.int 9))]) (wC (.int 0))) (wSet 10 (wOp addF (wTup [(wTup [(wTup [(wC (.str "=")), (wC (.int 0)), (wTup [(wC (.str "c")), (wC (.int 1))])]), (wTup [(wC (.str "!")), (wC (.int 0)), (wTup [(wC (.str "c")), (wC (.int 1))])])])]) (wSl (wVar 10) (some (wC (.int 1))) none))) wNil)
        (b_win1 b)) D)).nx [some (.o (.ref b)), s1, some (.d (.int i)), s3, some (.l (as.map eAsk)), some (.d (.int nb)), some (.l (ws.map eWin)), some (.d (.str t.name)), some (.d (.tuple (t.flds.map .str))), some (.d (eLot l)), some (.d (.tuple (L.map eLot))), s11, s12, s13] := by
    intro L hL
    refine ⟨trivial, ?_⟩
    rw [sq_nx, q_seq]
    have last : ∀ L : List Lot, LOk t.flds.length nb L → b_win1 b D [some (.o (.ref b)), s1, some (.d (.int i)), s3, some (.l (as.map eAsk)), some (.d (.int nb)), some (.l (ws.map eWin)), some (.d (.str t.name)), some (.d (.tuple (t.flds.map .str))), some (.d (eLot l)), some (.d (.tuple (L.map eLot))), s11, s12, s13] := by
      intro L hL
      exact win_one1 hi ht hf as hA ws hws hwl L hL _ _ _ _ _ _ _ fun as' ws' s11 s12 g1 g2 g3 => h as' ws' _ _ _ _ g1 g2 g3
    simp only [q_if, q_opT, q_call, q_args1, q_args0, q_var, q_slot0, q_C]
    refine ⟨by simp, 9, rfl, by omega, fun c hc => ⟨trivial, ?_⟩⟩
    simp only [q_onD, q_eq, v_int, q_asB]
    refine ⟨by simp, ?_⟩
    cases z : ((c : Int) == 0) with
    | false => exact last L hL
    | true =>
      simp only [q_set, q_op, q_tup, q_args1, q_args0, q_C, q_allD1, q_allD0, q_onD, q_sl, q_partS, q_partN, q_var, q_slot10, q_asLd, q_slT, cut_tail, q_addT]
      refine ⟨by rw [sz_eq]; have := hL.two; simp; omega, trivial, ?_⟩
      rw [sq_nx]
      have := last ([⟨true, 0, .c 1⟩, ⟨false, 0, .c 1⟩] :: L.drop 1) ⟨by simp, by have := hL.two; simp; omega, fun k hk => ?_, fun k hk => ?_⟩
      · rw [List.map_cons, List.map_drop] at this
        exact this
      · rcases List.mem_cons.mp hk with rfl | hk
        · simp
        · exact hL.lot k (List.mem_of_mem_drop hk)
      · rcases List.mem_cons.mp hk with rfl | hk
        · intro x hx
          simp at hx
          rcases hx with rfl | rfl <;> exact ⟨hf.1, trivial⟩
        · exact hL.fit k (List.mem_of_mem_drop hk)
  cases z : decide ((0 : Int) < (c : Int)) with
  | false =>
    have := main [l] ⟨by simp, by simp, fun k hk => by rw [List.mem_singleton.mp hk]; omega, fun k hk => by rw [List.mem_singleton.mp hk]; exact hlf⟩
    exact this
  | true =>
    have := main [l, m] ⟨by simp, by simp, fun k hk => by simp at hk; rcases hk with rfl | rfl <;> omega, fun k hk => by simp at hk; rcases hk with rfl | rfl <;> assumption⟩
    exact this
theorem wins_loop (hT : TOk ts) (hi : i < 4) (hnb : nb ≤ 3) (s1 s3 s13 : Option DV) : ∀ (rest done : List Tbl) (as : List Ask) (ws : List Win) (s7 s8 s9 s10 s11 s12 : Option DV), ts = done ++ rest → AOk i ts as → WOk ts nb ws → (ws.map (·.tbl)).Sublist (done.map (·.name)) →
    (∀ as' ws' s7 s8 s9 s10 s11 s12, AOk i ts as' → WOk ts nb ws' → (ws'.map (·.tbl)).Sublist (ts.map (·.name)) → D.nx [some (.o (.ref b)), s1, some (.d (.int i)), s3, some (.l (as'.map eAsk)), some (.d (.int nb)), some (.l (ws'.map eWin)), s7, s8, s9, s10, s11, s12, s13]) →
    loopW (.tp [7, 8]) (b_win b) D (rest.map eTbl) [some (.o (.ref b)), s1, some (.d (.int i)), s3, some (.l (as.map eAsk)), some (.d (.int nb)), some (.l (ws.map eWin)), s7, s8, s9, s10, s11, s12, s13]
  | [], done, as, ws, s7, s8, s9, s10, s11, s12, e, hA, hW, hs, h => by
    rw [List.append_nil] at e
    subst e
    exact h as ws _ _ _ _ _ _ hA hW hs
  | t :: rest, done, as, ws, s7, s8, s9, s10, s11, s12, e, hA, hW, hs, h => by
    have ht : t ∈ ts := by rw [e]; simp
    rw [List.map_cons, q_loop1, eTbl, q_bindT, q_bindE1, q_bindE1, q_bindE0]
    have hl : ws.length ≤ 100 := by
      have h1 := hs.length_le
      have h2 : done.length ≤ ts.length := by rw [e, List.length_append]; omega
      have h3 := hT.len
      simp at h1
      omega
    show b_win b _ [some (.o (.ref b)), s1, some (.d (.int i)), s3, some (.l (as.map eAsk)), some (.d (.int nb)), some (.l (ws.map eWin)), some (.d (.str t.name)), some (.d (.tuple (t.flds.map .str))), s9, s10, s11, s12, s13]
    refine win_one hi ht (hT.flds t ht) hnb as hA ws hW hl _ _ _ _ _ _ _ fun as' ws' s9 s10 s11 s12 g1 g2 g3 => ?_
    rw [lp_nx]
    refine wins_loop hT hi hnb s1 s3 s13 rest (done ++ [t]) as' ws' _ _ _ _ _ _ (by rw [e]; simp) g1 g2 ?_ h
    rw [List.map_append, List.map_cons, List.map_nil]
    rcases g3 with rfl | ⟨w, ew, rfl⟩
    · exact hs.trans (List.sublist_append_left _ _)
    · rw [List.map_append, List.map_cons, List.map_nil, ew]
      exact hs.append (List.Sublist.refl _)
end
/-! ### roles -/
structure RolOk (ts : List Tbl) (r : Rol) : Prop where
  badge : r.badge.length ≤ 3
  wins : r.wins.length ≤ 4
  nd : r.nd
  win : WOk ts r.badge.length r.wins
structure ROk (ts : List Tbl) (rs : List Rol) : Prop where
  len : rs.length ≤ 4
  nms : rs.map (·.name) = (List.range rs.length).map (nm "x" "klmn")
  ok : ∀ r ∈ rs, RolOk ts r
abbrev b_rol (b : Addr) : SW := (wSeq (wSet 5 (wCall (sp__law_door b) [(wVar 0), (wC (.int 4)), (wC (.int 4))]))
      (wSeq (wOwn 6 [])
      (wSeq (wFor (wSeqI (wVar 1)) (.tp [7, 8]) (b_win b))
      (wFrz 6 (wApp 3 (wTup [(wOp addF (wC (.str "x")) (wIx (wC (.str "klmn")) (wVar 2))), (wBlt (one tupF) [(wLc (wRng1 (wVar 5)) (.nm 13) wYes (wOp addF (wC (.str "z")) (wIx (wC (.str "abc")) (wVar 13))) [13])]), (wBlt (one tupF) [(wStep (wVar 6) (wNeg (wC (.int 1))))])]))))))
section
variable {b : Addr} {ts : List Tbl}
theorem rol_one {D : DEnds} {i : Nat} (hT : TOk ts) (hi : i < 4) (rs : List Rol) (hrl : rs.length ≤ 4) (as : List Ask) (hA : AOk i ts as) (s5 s6 s7 s8 s9 s10 s11 s12 s13 : Option DV)
    (h : ∀ r as' s5 s6 s7 s8 s9 s10 s11 s12, r.name = nm "x" "klmn" i → RolOk ts r → AOk i ts as' → D.nx [some (.o (.ref b)), some (.d (.list (ts.map eTbl))), some (.d (.int i)), some (.l ((rs ++ [r]).map eRol)), some (.l (as'.map eAsk)), s5, s6, s7, s8, s9, s10, s11, s12, s13]) :
    b_rol b D [some (.o (.ref b)), some (.d (.list (ts.map eTbl))), some (.d (.int i)), some (.l (rs.map eRol)), some (.l (as.map eAsk)), s5, s6, s7, s8, s9, s10, s11, s12, s13] := by
  unfold b_rol
  rw [q_seq, q_set]
  simp only [q_call, q_args1, q_args0, q_var, q_slot0, q_C]
  refine ⟨by simp, 4, 4, rfl, by omega, by omega, by omega, fun nb hnb => ⟨trivial, trivial, ?_⟩⟩
  have hnb : nb ≤ 3 := by omega
  rw [sq_nx, q_seq, q_own]
  simp only [q_args0, q_allD0]
  rw [sq_nx]
  show wSeq _ _ _ [some (.o (.ref b)), some (.d (.list (ts.map eTbl))), some (.d (.int i)), some (.l (rs.map eRol)), some (.l (as.map eAsk)), some (.d (.int nb)), some (.l []), s7, s8, s9, s10, s11, s12, s13]
  rw [q_seq, q_for]
  simp only [q_seqI, q_var, q_slot1, q_onD, q_seqL]
  refine wins_loop hT hi hnb _ _ _ ts [] as [] _ _ _ _ _ _ (by simp) hA (fun w hw => by cases hw) (by simp) fun as' ws s7 s8 s9 s10 s11 s12 g1 g2 g3 => ?_
  rw [sq_nx]
  simp only [q_frz, q_slot6]
  show wApp _ _ _ [some (.o (.ref b)), some (.d (.list (ts.map eTbl))), some (.d (.int i)), some (.l (rs.map eRol)), some (.l (as'.map eAsk)), some (.d (.int nb)), some (.d (.list (ws.map eWin))), s7, s8, s9, s10, s11, s12, s13]
  rw [q_app, q_slot3]
  simp only [q_tup, q_args1, q_args0]
  refine nm_run "x" "klmn" _ i _ _ (fun Q q => by simp only [q_var, q_slot2]; exact q) (by show i < 4; exact hi) (by decide) (by decide) ?_
  simp only [q_blt, q_args1, q_args0, q_lc, q_rng1, q_var, q_slot5, q_onD]
  refine ⟨⟨by omega, by omega⟩, ?_⟩
  rw [show ((nb : Int)).toNat = nb by omega, rng_eq0]
  refine lcW_map (fun (j : Nat) => PyData.int (0 + (j : Int))) (fun j => PyData.str (nm "z" "abc" j)) _ (fun j hj Q q => ?_) (by rw [sz_eq]; simp; omega) ?_
  · rw [q_bindN]
    have hj : j < nb := List.mem_range.mp hj
    refine nm_run "z" "abc" _ j _ _ (fun Q q => ?_) (by show j < 3; omega) (by decide) (by decide) ?_
    · show wVar 13 [some (.o (.ref b)), some (.d (.list (ts.map eTbl))), some (.d (.int i)), some (.l (rs.map eRol)), some (.l (as'.map eAsk)), some (.d (.int nb)), some (.d (.list (ws.map eWin))), s7, s8, s9, s10, s11, s12, some (.d (.int (0 + (j : Int))))] Q
      simp only [q_var, q_slot13, z_add]
      exact q
    · exact q
  · simp only [q_one, q_asLd, q_tupL, q_step, q_neg, q_negF, q_var, q_slot6, q_C, q_onD]
    refine ⟨rfl, ?_⟩
    simp only [q_tupL, q_onD, q_allD1, q_allD0]
    refine ⟨by rw [sz_eq]; simp; omega, ?_⟩
    have hwl : ws.length ≤ 4 := by have := g3.length_le; have := hT.len; simp at *; omega
    have := h ⟨nm "x" "klmn" i, (List.range nb).map (nm "z" "abc"), ws.reverse⟩ as' (some (.d (.int nb))) (some (.d (.list (ws.map eWin)))) s7 s8 s9 s10 s11 s12 rfl ⟨by simp; omega, by simpa using hwl, ?_, ?_⟩ g1
    · simpa [eRol, List.map_map, Function.comp_def] using this
    · show (ws.reverse.map (·.tbl)).Nodup
      rw [List.map_reverse]
      exact (List.reverse_perm _).nodup_iff.mpr (g3.nodup hT.nd)
    · intro w hw
      have := g2 w (List.mem_reverse.mp hw)
      simpa using this
theorem AOk.mono {i j : Nat} {as : List Ask} (h : AOk i ts as) (l : i ≤ j) : AOk j ts as := ⟨h.len, h.nms, fun a ha => by
  obtain ⟨k, hk, e⟩ := h.rol a ha
  exact ⟨k, by omega, e⟩, h.tab⟩
theorem rols_loop (D : DEnds) (hT : TOk ts) : ∀ (k i : Nat) (rs : List Rol) (as : List Ask) (s2 s5 s6 s7 s8 s9 s10 s11 s12 s13 : Option DV), i + k ≤ 4 → rs.length = i → ROk ts rs → AOk i ts as → (as = [] ∨ AOk (i - 1) ts as ∧ 0 < i) →
    (∀ rs' as' s2 s5 s6 s7 s8 s9 s10 s11 s12, rs'.length = i + k → ROk ts rs' → (as' = [] ∨ AOk (i + k - 1) ts as' ∧ 0 < i + k) → D.nx [some (.o (.ref b)), some (.d (.list (ts.map eTbl))), s2, some (.l (rs'.map eRol)), some (.l (as'.map eAsk)), s5, s6, s7, s8, s9, s10, s11, s12, s13]) →
    loopW (.nm 2) (b_rol b) D ((List.range' i k).map fun (j : Nat) => PyData.int (0 + (j : Int))) [some (.o (.ref b)), some (.d (.list (ts.map eTbl))), s2, some (.l (rs.map eRol)), some (.l (as.map eAsk)), s5, s6, s7, s8, s9, s10, s11, s12, s13]
  | 0, i, rs, as, s2, s5, s6, s7, s8, s9, s10, s11, s12, s13, _, hl, hR, hA, hA', h => h rs as _ _ _ _ _ _ _ _ _ hl hR hA'
  | k + 1, i, rs, as, s2, s5, s6, s7, s8, s9, s10, s11, s12, s13, hk, hl, hR, hA, hA', h => by
    rw [List.range'_succ, List.map_cons, q_loop1, q_bindN, z_add]
    refine rol_one hT (by omega) rs (by omega) as hA _ _ _ _ _ _ _ _ _ fun r as' s5 s6 s7 s8 s9 s10 s11 s12 g1 g2 g3 => ?_
    rw [lp_nx]
    refine rols_loop D hT k (i + 1) _ as' _ _ _ _ _ _ _ _ _ _ (by omega) (by simp; omega) ⟨by simp; omega, ?_, fun x hx => ?_⟩ (g3.mono (by omega)) (.inr ⟨by simpa using g3, by omega⟩) fun rs' as' s2 s5 s6 s7 s8 s9 s10 s11 s12 e1 e2 e3 => h rs' as' _ _ _ _ _ _ _ _ _ (by omega) e2 (by
      have e : i + 1 + k = i + (k + 1) := by omega
      rw [e] at e3
      exact e3)
    · simp only [List.map_append, List.map_cons, List.map_nil, List.length_append, List.length_cons, List.length_nil, Nat.zero_add, List.range_succ, hR.nms, hl, g1]
    · rcases List.mem_append.mp hx with hx | hx
      · exact hR.ok x hx
      · rw [List.mem_singleton.mp hx]; exact g2
end
theorem inj_name {ts : List Tbl} (nd : (ts.map (·.name)).Nodup) {t u : Tbl} (ht : t ∈ ts) (hu : u ∈ ts) (e : t.name = u.name) : t = u := by
  have h1 := find_by Tbl.name nd ht
  have h2 := find_by Tbl.name nd hu
  rw [e] at h1
  exact Option.some.inj (h1.symm.trans h2)
theorem app_good {ts : List Tbl} {rs : List Rol} {as : List Ask} (hT : TOk ts) (hR : ROk ts rs) (h0 : 0 < rs.length) (hA : as = [] ∨ AOk (rs.length - 1) ts as ∧ 0 < rs.length) : (App.mk ts rs as).good ∧ (App.mk ts rs as).fits := by
  have hA : AOk (rs.length - 1) ts as := by
    rcases hA with rfl | ⟨h, _⟩
    · exact ⟨by simp, by simp, (fun a ha => nomatch ha), (fun a ha => nomatch ha)⟩
    · exact h
  refine ⟨⟨by have := hT.len; show ts.length ≤ 100; omega, by have := hR.len; show rs.length ≤ 100; omega, by have := hA.len; show as.length ≤ 100; omega, fun r hr => by have := (hR.ok r hr).wins; omega, fun r hr => by have := (hR.ok r hr).badge; omega, fun t ht => by have := (hT.flds t ht).2; omega,
    fun r hr w hw => ((hR.ok r hr).win w hw).1, hT.nd, fun t ht => ?_, ?_, fun r hr => (hR.ok r hr).nd, fun r hr w hw => ?_, ?_, fun a ha => ?_, hA.tab⟩, fun r hr w hw t ht e => ?_⟩
  · have hm : t.name ∈ ts.map (·.name) := List.mem_map.mpr ⟨t, ht, rfl⟩
    rw [hT.nms] at hm
    obtain ⟨j, hj, e⟩ := List.mem_map.mp hm
    rw [← e]
    exact ok_q j (by have := List.mem_range.mp hj; have := hT.len; omega)
  · show (rs.map (·.name)).Nodup
    rw [hR.nms]
    exact nd_names _ _ 4 _ hR.len nd_x
  · obtain ⟨_, t, ht, e, _⟩ := (hR.ok r hr).win w hw
    exact ⟨t, ht, e⟩
  · show (as.map (·.name)).Nodup
    rw [hA.nms]
    exact nd_names _ _ 8 _ hA.len nd_y
  · obtain ⟨j, hj, e⟩ := hA.rol a ha
    have hm : nm "x" "klmn" j ∈ rs.map (·.name) := by
      rw [hR.nms]
      exact List.mem_map.mpr ⟨j, List.mem_range.mpr (by omega), rfl⟩
    obtain ⟨r, hr, e2⟩ := List.mem_map.mp hm
    exact ⟨r, hr, e2.trans e.symm⟩
  · obtain ⟨_, u, hu, eu, fu⟩ := (hR.ok r hr).win w hw
    have : t = u := inj_name hT.nd ht hu (e.trans eu.symm)
    subst this
    exact fu
theorem fin__law_app (b : Addr) (xs : List DV) (R : DV → Prop) (h : sp__law_app b xs R) : w__law_app b { nx := fun _ => R (.d .none), rt := R } (startE 14 xs) := by
  obtain ⟨rfl, hR⟩ := h
  simp only [w__law_app, startE, q_seq, q_own, q_args0, q_allD0, sq_nx]
  show wFor _ _ _ _ [some (.o (.ref b)), some (.l []), none, none, none, none, none, none, none, none, none, none, none, none]
  simp only [q_for, q_rng1, q_op, q_C, q_onD, q_call, q_args1, q_args0, q_var, q_slot0]
  refine ⟨by simp, 2, 4, rfl, by omega, by omega, by omega, fun n hn => ⟨trivial, ?_⟩⟩
  simp only [q_onD, q_addI]
  refine ⟨⟨by omega, by omega⟩, ?_⟩
  rw [show ((1 : Int) + (n : Int)).toNat = n + 1 by omega, rng_eq]
  refine tabs_loop b _ _ _ _ _ _ _ _ _ _ _ _ (n + 1) 0 [] none (by omega) rfl ⟨by simp, by simp, fun t ht => by cases ht⟩ fun ts s2 hT hl => ?_
  rw [sq_nx]
  simp only [q_frz, q_slot1, q_seq, q_own, q_args0, q_allD0, sq_nx]
  show wFor _ _ _ _ [some (.o (.ref b)), some (.d (.list (ts.map eTbl))), s2, some (.l []), some (.l []), none, none, none, none, none, none, none, none, none]
  simp only [q_for, q_rng1, q_op, q_C, q_onD, q_call, q_args1, q_args0, q_var, q_slot0]
  refine ⟨by simp, 3, 4, rfl, by omega, by omega, by omega, fun m hm => ⟨trivial, ?_⟩⟩
  simp only [q_onD, q_addI]
  refine ⟨⟨by omega, by omega⟩, ?_⟩
  rw [show ((1 : Int) + (m : Int)).toNat = m + 1 by omega, rng_eq]
  refine rols_loop _ hT (m + 1) 0 [] [] _ _ _ _ _ _ _ _ _ _ (by omega) rfl ⟨by simp, by simp, fun t ht => by cases ht⟩ ⟨by simp, by simp, (fun a ha => nomatch ha), (fun a ha => nomatch ha)⟩ (.inl rfl) fun rs as s2 s5 s6 s7 s8 s9 s10 s11 s12 e1 e2 e3 => ?_
  rw [sq_nx, q_frz]
  simp only [q_slot3]
  show wFrz _ _ _ [some (.o (.ref b)), some (.d (.list (ts.map eTbl))), s2, some (.d (.list (rs.map eRol))), some (.l (as.map eAsk)), s5, s6, s7, s8, s9, s10, s11, s12, none]
  rw [q_frz]
  simp only [q_slot4]
  show wRet _ _ [some (.o (.ref b)), some (.d (.list (ts.map eTbl))), s2, some (.d (.list (rs.map eRol))), some (.d (.list (as.map eAsk))), s5, s6, s7, s8, s9, s10, s11, s12, none]
  simp only [q_ret, q_tup, q_blt, q_args1, q_args0, q_var, q_slot1, q_slot3, q_slot4, q_one, q_asLd, q_tupL, q_allD1, q_allD0]
  have g := app_good hT e2 (by omega) (by rw [e1]; exact e3)
  exact hR ⟨ts, rs, as⟩ g.1 g.2 (by intro e; rw [show ts = [] from e] at hl; simp at hl)
end K85

set_option maxRecDepth 100000
set_option maxHeartbeats 1000000
namespace K85
open PySem L2 DL
/-! ### the app by hand -/
def tied : Lot := [⟨true, 0, .f 1⟩, ⟨true, 1, .b 0⟩]
def turn0 : Lot := [⟨true, 1, .f 0⟩, ⟨true, 0, .b 0⟩]
def gone : Lot := [⟨true, 0, .c 1⟩, ⟨true, 0, .c 2⟩]
def goneR : Lot := [⟨true, 0, .c 2⟩, ⟨true, 0, .c 1⟩]
def tb0 : List Tbl := [⟨"t", ["a", "b"]⟩, ⟨"u", ["a"]⟩]
def wA1 : Win := ⟨"u", [[⟨true, 0, .c 1⟩], [⟨false, 0, .c 2⟩]], []⟩
def wA2 : Win := ⟨"t", [tied, turn0], [0]⟩
def wB1 : Win := ⟨"t", [gone, goneR], [0, 1]⟩
def wB2 : Win := ⟨"u", [gone, [⟨false, 0, .c 0⟩]], [0]⟩
def wC1 : Win := ⟨"t", [[], tied], []⟩
def wC2 : Win := ⟨"u", [[⟨true, 0, .b 0⟩], [⟨true, 0, .c 1⟩]], [0]⟩
def rA : Rol := ⟨"ra", ["p"], [wA1, wA2]⟩
def rolB : Rol := ⟨"rb", [], [wB1, wB2]⟩
def rC : Rol := ⟨"rc", ["p"], [wC1, wC2]⟩
def ask0 : Ask := ⟨"g", "rc", "t"⟩
def A0 : App := ⟨tb0, [rA, rolB, rC], [ask0]⟩
def rA' : Rol := ⟨"ra", ["p"], [⟨"u", [[⟨false, 0, .c 2⟩]], []⟩, ⟨"t", [tied], [0]⟩]⟩
def rolB' : Rol := ⟨"rb", [], [⟨"u", [[⟨false, 0, .c 0⟩]], [0]⟩]⟩
def rC' : Rol := ⟨"rc", ["p"], [⟨"t", [[]], []⟩, wC2]⟩
def L0 : App := ⟨tb0, [rA', rolB', rC'], [ask0]⟩
theorem trim0 : trimA A0 = L0 := by kernel_rfl
def Z0 : App := ⟨tb0, [⟨"rz", [], [⟨"t", [gone], []⟩]⟩, ⟨"ry", [], [⟨"u", [gone], []⟩, ⟨"t", [gone], [1]⟩]⟩], []⟩
instance {nf nb : Nat} {t : Tm} : Decidable (t.fit nf nb) := match t with
  | .f n => inferInstanceAs (Decidable (n < nf))
  | .b n => inferInstanceAs (Decidable (n < nb))
  | .c _ => inferInstanceAs (Decidable True)
def okB (w : Win) : Bool := decide (1 ≤ w.lots.length) && decide (w.lots.length ≤ 2) && (w.lots.all fun l => decide (l.length ≤ 4)) && decide (w.shown.length ≤ 10)
theorem ok_of {w : Win} (h : okB w = true) : w.ok := by
  simp only [okB, Bool.and_eq_true, decide_eq_true_eq, List.all_eq_true] at h
  exact ⟨h.1.1.1, h.1.1.2, h.1.2, h.2⟩
theorem goods (A : App) (h1 : A.tabs.length ≤ 100) (h2 : A.rols.length ≤ 100) (h3 : A.asks.length ≤ 100) (h4 : (A.rols.all fun r => decide (r.wins.length ≤ 100) && (decide (r.badge.length ≤ 100) && (r.wins.all fun w => okB w && A.tabs.any fun t => decide (t.name = w.tbl)))) = true)
    (h5 : (A.tabs.all fun t => decide (t.flds.length ≤ 100) && PyData.strOk t.name) = true) (h6 : (A.tabs.map (·.name)).Nodup) (h7 : (A.rols.map (·.name)).Nodup) (h8 : (A.rols.all fun r => decide ((r.wins.map (·.tbl)).Nodup)) = true) (h9 : (A.asks.map (·.name)).Nodup)
    (h10 : (A.asks.all fun a => (A.rols.any fun r => decide (r.name = a.role)) && A.tabs.any fun t => decide (t.name = a.tbl)) = true) : A.good := by
  simp only [List.all_eq_true, Bool.and_eq_true, decide_eq_true_eq, List.any_eq_true] at h4 h5 h8 h10
  exact ⟨h1, h2, h3, fun r hr => (h4 r hr).1, fun r hr => (h4 r hr).2.1, fun t ht => (h5 t ht).1, fun r hr w hw => ok_of ((h4 r hr).2.2 w hw).1, h6, fun t ht => (h5 t ht).2, h7, h8, fun r hr w hw => ((h4 r hr).2.2 w hw).2, h9, fun a ha => (h10 a ha).1, fun a ha => (h10 a ha).2⟩
theorem good0 : A0.good := goods A0 (by decide) (by decide) (by decide) (by decide +kernel) (by decide +kernel) (by decide +kernel) (by decide +kernel) (by decide +kernel) (by decide +kernel) (by decide +kernel)
theorem fits0 : A0.fits := by
  have h : (A0.rols.all fun r => r.wins.all fun w => A0.tabs.all fun t => !decide (t.name = w.tbl) || ((w.lots.all fun l => l.all fun k => decide (k.fld < t.flds.length) && decide (k.tm.fit t.flds.length r.badge.length)) && w.shown.all fun n => decide (n < t.flds.length))) = true := by decide +kernel
  intro r hr w hw t ht e
  have := List.all_eq_true.mp (List.all_eq_true.mp (List.all_eq_true.mp h r hr) w hw) t ht
  simp only [e, decide_true, Bool.not_true, Bool.false_or, Bool.and_eq_true, List.all_eq_true, decide_eq_true_eq] at this
  exact ⟨this.1, this.2⟩
theorem goodZ : Z0.good := goods Z0 (by decide) (by decide) (by decide) (by decide +kernel) (by decide +kernel) (by decide +kernel) (by decide +kernel) (by decide +kernel) (by decide +kernel) (by decide +kernel)
theorem goodL : L0.good := by rw [← trim0]; exact good0.trim
theorem fitsL : L0.fits := by rw [← trim0]; exact fits0.trim good0
/-! ### what is told of it -/
theorem srt_id (l : List PyData) (h : l.Pairwise (fun a b => PySem.W.dataLe false id a b = true)) : srt l = l := List.mergeSort_of_pairwise h
def e1 (n : Int) : PyData := .tuple [.int n]
theorem srt2 (a b : Int) (h : PySem.W.dataLe false id (e1 a) (e1 b) = true) : srt [e1 a, e1 b] = [e1 a, e1 b] := srt_id _ (by simp [h])
theorem idle0 : eIdles (idlesA A0) = .tuple [eP ("rb", "t")] := by
  have e : idlesA A0 = [(("rb" : Str), ("t" : Str))] := by kernel_rfl
  rw [e]
  simp [eIdles, srt]
theorem idleZ : eIdles (idlesA Z0) = .tuple [eP ("ry", "t"), eP ("ry", "u"), eP ("rz", "t")] := by
  have e : idlesA Z0 = [(("rz" : Str), ("t" : Str)), (("ry" : Str), ("u" : Str)), (("ry" : Str), ("t" : Str))] := by kernel_rfl
  rw [e]
  have le1 : PySem.W.dataLe false id (eP ("rz","t")) (eP ("ry","u")) = false := by decide +kernel
  have le2 : PySem.W.dataLe false id (eP ("ry","u")) (eP ("ry","t")) = false := by decide +kernel
  simp [eIdles, srt, List.mergeSort, List.MergeSort.Internal.splitInTwo, le1, le2]
def st0 : List (List (List Int)) := [[[1, 1], [1, 2]], [[0], [1], [2]]]
def ot1 : List (List (List Int)) := [[[1, 1], [1, 2]], [[1], [3]]]
def ot2 : List (List (List Int)) := [[[5, 5]], [[1], [2]]]
def ot3 : List (List (List Int)) := [[], [[1], [2], [2]]]
def shU : List (List Int) → PyData := fun l => .tuple (srt (l.map eRw))
theorem sight_eq (st : List (List (List Int))) (rt ru : List (List Int)) (h : st = [rt, ru]) (h1 : showsOf (some wB1) [] rt = []) (l : List (List Int)) (h2 : showsOf (some wB2) [] ru = l) (h3 : (l.map eRw).Pairwise (fun a b => PySem.W.dataLe false id a b = true)) :
    sightA A0 rolB [] st = .tuple [.tuple [], .tuple (l.map eRw)] := by
  subst h
  have e1 : rolB.win "t" = some wB1 := by kernel_rfl
  have e2 : rolB.win "u" = some wB2 := by kernel_rfl
  show PyData.tuple [tableB (rolB.win "t") [] rt, tableB (rolB.win "u") [] ru] = _
  rw [e1, e2]
  show PyData.tuple [.tuple (srt ((showsOf (some wB1) [] rt).map eRw)), .tuple (srt ((showsOf (some wB2) [] ru).map eRw))] = _
  rw [h1, h2, srt_id _ h3]
  simp [srt]
theorem sightL : sightA L0 rolB' [] st0 = .tuple [.none, .tuple [e1 1, e1 2]] := by
  have h1 : rolB'.win "t" = none := by kernel_rfl
  have h2 : rolB'.win "u" = some ⟨"u", [[⟨false, 0, .c 0⟩]], [0]⟩ := by kernel_rfl
  show PyData.tuple [tableB (rolB'.win "t") [] [[1, 1], [1, 2]], tableB (rolB'.win "u") [] [[0], [1], [2]]] = _
  rw [h1, h2]
  have h3 : showsOf (some ⟨"u", [[⟨false, 0, .c 0⟩]], [0]⟩) [] [[0], [1], [2]] = [[1], [2]] := by decide +kernel
  show PyData.tuple [.none, .tuple (srt ((showsOf (some ⟨"u", [[⟨false, 0, .c 0⟩]], [0]⟩) [] [[0], [1], [2]]).map eRw))] = _
  rw [h3]
  show PyData.tuple [.none, .tuple (srt [e1 1, e1 2])] = _
  rw [srt2 _ _ (by decide +kernel)]
theorem s_st0 : sightA A0 rolB [] st0 = .tuple [.tuple [], .tuple [e1 1, e1 2]] := sight_eq st0 _ _ rfl (by decide +kernel) [[1], [2]] (by decide +kernel) (by decide +kernel)
theorem s_ot1 : sightA A0 rolB [] ot1 = .tuple [.tuple [], .tuple [e1 1, e1 3]] := sight_eq ot1 _ _ rfl (by decide +kernel) [[1], [3]] (by decide +kernel) (by decide +kernel)
theorem s_ot2 : sightA A0 rolB [] ot2 = .tuple [.tuple [], .tuple [e1 1, e1 2]] := sight_eq ot2 _ _ rfl (by decide +kernel) [[1], [2]] (by decide +kernel) (by decide +kernel)
theorem s_ot3 : sightA A0 rolB [] ot3 = .tuple [.tuple [], .tuple [e1 1, e1 2, e1 2]] := sight_eq ot3 _ _ rfl (by decide +kernel) [[1], [2], [2]] (by decide +kernel) (by decide +kernel)
theorem stok {st : List (List (List Int))} (rt ru : List (List Int)) (e : st = [rt, ru]) (h1 : rt.length ≤ 1000) (h2 : ∀ r ∈ rt, r.length = 2) (h3 : ru.length ≤ 1000) (h4 : ∀ r ∈ ru, r.length = 1) : StOk 1000 tb0 st := by
  subst e
  exact .cons h1 h2 (.cons h3 h4 .nil)
def pB : Per := ⟨"rb", []⟩
theorem sees0 {st : List (List (List Int))} (h : StOk 1000 tb0 st) : Sees A0 pB rolB st := sees_of good0 fits0 (show rolB ∈ A0.rols by simp [A0]) (badge := []) rfl (Nat.le_refl _) h
theorem seesL {st : List (List (List Int))} (h : StOk 1000 tb0 st) : Sees L0 pB rolB' st := sees_of goodL fitsL (show rolB' ∈ L0.rols by simp [L0]) (badge := []) rfl (Nat.le_refl _) h
theorem k_st0 : StOk 1000 tb0 st0 := stok _ _ rfl (by decide) (by decide) (by decide) (by decide)
theorem k_ot1 : StOk 1000 tb0 ot1 := stok _ _ rfl (by decide) (by decide) (by decide) (by decide)
theorem k_ot2 : StOk 1000 tb0 ot2 := stok _ _ rfl (by decide) (by decide) (by decide) (by decide)
theorem k_ot3 : StOk 1000 tb0 ot3 := stok _ _ rfl (by decide) (by decide) (by decide) (by decide)
end K85

set_option maxRecDepth 100000
set_option maxHeartbeats 2000000
namespace K85
open PySem L2 DL
abbrev sp__law_by_hand : SpD := fun xs Q => xs = [] ∧ Q (.d (.bool true))
/-! _law_by_hand(): slots 0 tied, 1 turned, 2 gone, 3 roles, 4 app, 5 name, 6 table, 7 due, 8 less, 9 store, 10 one, 11 other, 12 lone; calls _law_same, are_alike, idle_windows, sight_of, sizes, spare_lots, tells_nothing, trimmed -/
def w__law_by_hand : SW :=
    (wSeq (wSet 0 (wTup [(wTup [(wC (.str "=")), (wC (.int 0)), (wTup [(wC (.str "f")), (wC (.int 1))])]), (wTup [(wC (.str "=")), (wC (.int 1)), (wTup [(wC (.str "b")), (wC (.int 0))])])]))
    (wSeq (wSet 1 (wTup [(wTup [(wC (.str "=")), (wC (.int 1)), (wTup [(wC (.str "f")), (wC (.int 0))])]), (wTup [(wC (.str "=")), (wC (.int 0)), (wTup [(wC (.str "b")), (wC (.int 0))])])]))
    (wSeq (wSet 2 (wTup [(wTup [(wC (.str "=")), (wC (.int 0)), (wTup [(wC (.str "c")), (wC (.int 1))])]), (wTup [(wC (.str "=")), (wC (.int 0)), (wTup [(wC (.str "c")), (wC (.int 2))])])]))
    (wSeq (wOwn 3 [(wTup [(wC (.str "ra")), (wTup [(wC (.str "p"))]), (wTup [(wTup [(wC (.str "u")), (wTup [(wTup [(wTup [(wC (.str "=")), (wC (.int 0)), (wTup [(wC (.str "c")), (wC (.int 1))])])]), (wTup [(wTup [(wC (.str "!")), (wC (.int 0)), (wTup [(wC (.str "c")), (wC (.int 2))])])])]), (wTup [])]), (wTup [(wC (.str "t")), (wTup [(wVar 0), (wVar 1)]), (wTup [(wC (.int 0))])])])])])
    (wSeq (wApp 3 (wTup [(wC (.str "rb")), (wTup []), (wTup [(wTup [(wC (.str "t")), (wTup [(wVar 2), (wStep (wVar 2) (wNeg (wC (.int 1))))]), (wTup [(wC (.int 0)), (wC (.int 1))])]), (wTup [(wC (.str "u")), (wTup [(wVar 2), (wTup [(wTup [(wC (.str "!")), (wC (.int 0)), (wTup [(wC (.str "c")), (wC (.int 0))])])])]), (wTup [(wC (.int 0))])])])]))
    (wSeq (wApp 3 (wTup [(wC (.str "rc")), (wTup [(wC (.str "p"))]), (wTup [(wTup [(wC (.str "t")), (wTup [(wTup []), (wVar 0)]), (wTup [])]), (wTup [(wC (.str "u")), (wTup [(wTup [(wTup [(wC (.str "=")), (wC (.int 0)), (wTup [(wC (.str "b")), (wC (.int 0))])])]), (wTup [(wTup [(wC (.str "=")), (wC (.int 0)), (wTup [(wC (.str "c")), (wC (.int 1))])])])]), (wTup [(wC (.int 0))])])])]))
    (wFrz 3 (wSeq (wSet 4 (wTup [(wTup [(wTup [(wC (.str "t")), (wTup [(wC (.str "a")), (wC (.str "b"))])]), (wTup [(wC (.str "u")), (wTup [(wC (.str "a"))])])]), (wBlt (one tupF) [(wVar 3)]), (wTup [(wTup [(wC (.str "g")), (wC (.str "rc")), (wTup []), (wTup [(wC (.str "t"))]), (wC .none), (wTup []), (wTup [(wC (.str "count"))])])]), (wTup [])]))
    (wSeq (wFor (wSeqI (wLst [(wTup [(wC (.str "ra")), (wC (.str "u")), (wTup [(wC (.int 0))])]), (wTup [(wC (.str "ra")), (wC (.str "t")), (wTup [(wC (.int 1))])]), (wTup [(wC (.str "rb")), (wC (.str "t")), (wTup [(wC (.int 1))])]), (wTup [(wC (.str "rb")), (wC (.str "u")), (wTup [(wC (.int 0))])]), (wTup [(wC (.str "rc")), (wC (.str "t")), (wTup [(wC (.int 1))])]), (wTup [(wC (.str "rc")), (wC (.str "u")), (wTup [])])])) (.tp [5, 6, 7])
      (wIf (wNotT (wTru (wCall sp__law_same [(wCall sp_spare_lots [(wVar 4), (wVar 5), (wVar 6)]), (wVar 7)]))) (wRet (wC (.bool false))) wNil))
    (wSeq (wOwn 8 [(wTup [(wC (.str "ra")), (wTup [(wC (.str "p"))]), (wTup [(wTup [(wC (.str "u")), (wTup [(wTup [(wTup [(wC (.str "!")), (wC (.int 0)), (wTup [(wC (.str "c")), (wC (.int 2))])])])]), (wTup [])]), (wTup [(wC (.str "t")), (wTup [(wVar 0)]), (wTup [(wC (.int 0))])])])]), (wTup [(wC (.str "rb")), (wTup []), (wTup [(wTup [(wC (.str "u")), (wTup [(wTup [(wTup [(wC (.str "!")), (wC (.int 0)), (wTup [(wC (.str "c")), (wC (.int 0))])])])]), (wTup [(wC (.int 0))])])])])])
    (wSeq (wApp 8 (wTup [(wC (.str "rc")), (wTup [(wC (.str "p"))]), (wTup [(wTup [(wC (.str "t")), (wTup [(wTup [])]), (wTup [])]), (wIx (wIx (wIx (wVar 3) (wC (.int 2))) (wC (.int 2))) (wC (.int 1)))])]))
    (wFrz 8 (wSeq (wIf (wOrT (wNotT (wTru (wCall sp__law_same [(wCall sp_idle_windows [(wVar 4)]), (wTup [(wTup [(wC (.str "rb")), (wC (.str "t"))])])]))) (wNotT (wTru (wCall sp__law_same [(wCall sp_trimmed [(wVar 4)]), (wTup [(wIx (wVar 4) (wC (.int 0))), (wBlt (one tupF) [(wVar 8)]), (wIx (wVar 4) (wC (.int 2))), (wTup [])])])))) (wRet (wC (.bool false))) wNil)
    (wSeq (wSet 9 (wTup [(wTup [(wTup [(wC (.int 1)), (wC (.int 1))]), (wTup [(wC (.int 1)), (wC (.int 2))])]), (wTup [(wTup [(wC (.int 0))]), (wTup [(wC (.int 1))]), (wTup [(wC (.int 2))])])]))
    (wSeq (wFor (wSeqI (wLst [(wTup [(wVar 4), (wTup [(wTup []), (wTup [(wTup [(wC (.int 1))]), (wTup [(wC (.int 2))])])])]), (wTup [(wCall sp_trimmed [(wVar 4)]), (wTup [(wC .none), (wTup [(wTup [(wC (.int 1))]), (wTup [(wC (.int 2))])])])])])) (.tp [10, 7])
      (wIf (wOrT (wNotT (wTru (wCall sp__law_same [(wCall sp_sight_of [(wVar 10), (wTup [(wC (.str "rb")), (wTup [])]), (wVar 9)]), (wVar 7)]))) (wNotT (wTru (wCall sp__law_same [(wCall sp_tells_nothing [(wVar 10), (wC (.str "g"))]), (wC (.bool true))])))) (wRet (wC (.bool false))) wNil))
    (wSeq (wFor (wSeqI (wLst [(wTup [(wTup [(wTup [(wTup [(wC (.int 1)), (wC (.int 1))]), (wTup [(wC (.int 1)), (wC (.int 2))])]), (wTup [(wTup [(wC (.int 1))]), (wTup [(wC (.int 3))])])]), (wC (.bool false))]), (wTup [(wTup [(wTup [(wTup [(wC (.int 5)), (wC (.int 5))])]), (wTup [(wTup [(wC (.int 1))]), (wTup [(wC (.int 2))])])]), (wC (.bool true))]), (wTup [(wTup [(wTup []), (wTup [(wTup [(wC (.int 1))]), (wTup [(wC (.int 2))]), (wTup [(wC (.int 2))])])]), (wC (.bool false))])])) (.tp [11, 7])
      (wIf (wNotT (wTru (wCall sp__law_same [(wCall sp_are_alike [(wVar 4), (wTup [(wC (.str "rb")), (wTup [])]), (wVar 9), (wVar 11)]), (wVar 7)]))) (wRet (wC (.bool false))) wNil))
    (wSeq (wSet 12 (wTup [(wIx (wVar 4) (wC (.int 0))), (wTup [(wTup [(wC (.str "rz")), (wTup []), (wTup [(wTup [(wC (.str "t")), (wTup [(wVar 2)]), (wTup [])])])]), (wTup [(wC (.str "ry")), (wTup []), (wTup [(wTup [(wC (.str "u")), (wTup [(wVar 2)]), (wTup [])]), (wTup [(wC (.str "t")), (wTup [(wVar 2)]), (wTup [(wC (.int 1))])])])])]), (wTup []), (wTup [])]))
    (wSeq (wIf (wOrT (wNotT (wTru (wCall sp__law_same [(wCall sp_idle_windows [(wVar 12)]), (wTup [(wTup [(wC (.str "ry")), (wC (.str "t"))]), (wTup [(wC (.str "ry")), (wC (.str "u"))]), (wTup [(wC (.str "rz")), (wC (.str "t"))])])]))) (wNotT (wTru (wCall sp__law_same [(wCall sp_sizes [(wVar 12)]), (wTup [(wC (.int 2)), (wC (.int 3)), (wC (.int 2)), (wC (.int 3)), (wC (.int 0)), (wC (.int 0))])])))) (wRet (wC (.bool false))) wNil)
    (wRet (wCall sp__law_same [(wCall sp_sizes [(wVar 4)]), (wTup [(wC (.int 2)), (wC (.int 3)), (wC (.int 3)), (wC (.int 6)), (wC (.int 1)), (wC (.int 0))])]))))))))))))))))))))
section
variable {D : DEnds} {A : App}
/-- one row of the first table -/
theorem bh_spare (rn tn : Str) (r : Rol) (t : Tbl) (w : Win) (due : PyData) (h1 : A.rol rn = some r) (h2 : A.tab tn = some t) (h3 : r.win tn = some w) (h4 : okB w = true) (h5 : eNats (spareB w.lots) = due)
    (s0 s1 s2 s3 s5 s6 s7 s8 s9 s10 s11 s12 : Option DV) (h : ∀ s5 s6 s7, D.nx [s0, s1, s2, s3, some (.d (eApp A)), s5, s6, s7, s8, s9, s10, s11, s12]) :
    (match (Tg.tp [5, 6, 7]).bind (.tuple [.str rn, .str tn, due]) [s0, s1, s2, s3, some (.d (eApp A)), s5, s6, s7, s8, s9, s10, s11, s12] with
      | some en' => (wIf (wNotT (wTru (wCall sp__law_same [(wCall sp_spare_lots [(wVar 4), (wVar 5), (wVar 6)]), (wVar 7)]))) (wRet (wC (.bool false))) wNil) D en'
      | none => False) := by
  rw [q_bindT, q_bindE1, q_bindE1, q_bindE1, q_bindE0]
  show wIf _ _ _ _ [s0, s1, s2, s3, some (.d (eApp A)), some (.d (.str rn)), some (.d (.str tn)), some (.d due), s8, s9, s10, s11, s12]
  simp only [q_if, q_notT, q_tru, q_call, q_args1, q_args0, q_var, q_slot4, q_slot5, q_slot6, q_slot7]
  refine ⟨by simp, (A, rn, tn, r, t, w), rfl, ⟨h1, h2, h3, ok_of h4⟩, trivial, ?_⟩
  subst h5
  refine ⟨by simp, same_ok (tup_nats (spareB w.lots) (by have := spareB_len w.lots; omega)) ⟨trivial, ?_⟩⟩
  simp only [q_truV, q_truB, Bool.not_true, q_nil]
  exact h _ _ _
/-- sight and ask -/
theorem bh_sight (r : Rol) (rc : Rol) (due : PyData) (G : A.good) (F : A.fits) (hr : r ∈ A.rols) (hn : r.name = "rb") (hb : r.badge = []) (hT : A.tabs = tb0) (h1 : sightA A r [] st0 = due) (ha : A.ask "g" = some ask0) (hrc : A.rol "rc" = some rc) (ht : A.tab "t" = some ⟨"t", ["a", "b"]⟩) (h2 : ((waysL (rc.win "t")).any canB) = false)
    (s0 s1 s2 s3 s4 s5 s6 s7 s8 s10 s11 s12 : Option DV) (h : ∀ s7 s10, D.nx [s0, s1, s2, s3, s4, s5, s6, s7, s8, some (.d (eSt st0)), s10, s11, s12]) :
    (match (Tg.tp [10, 7]).bind (.tuple [eApp A, due]) [s0, s1, s2, s3, s4, s5, s6, s7, s8, some (.d (eSt st0)), s10, s11, s12] with
      | some en' => (wIf (wOrT (wNotT (wTru (wCall sp__law_same [(wCall sp_sight_of [(wVar 10), (wTup [(wC (.str "rb")), (wTup [])]), (wVar 9)]), (wVar 7)]))) (wNotT (wTru (wCall sp__law_same [(wCall sp_tells_nothing [(wVar 10), (wC (.str "g"))]), (wC (.bool true))])))) (wRet (wC (.bool false))) wNil) D en'
      | none => False) := by
  rw [q_bindT, q_bindE1, q_bindE1, q_bindE0]
  show wIf _ _ _ _ [s0, s1, s2, s3, s4, s5, s6, some (.d due), s8, some (.d (eSt st0)), some (.d (eApp A)), s11, s12]
  have S := sees_of G F hr (badge := []) (by rw [hb]; rfl) (Nat.le_refl 1000) (show StOk 1000 A.tabs st0 by rw [hT]; exact k_st0)
  have T := tup_sight G r [] (Nat.le_refl 1000) (show StOk 1000 A.tabs st0 by rw [hT]; exact k_st0) fun w hw => G.ok r hr w hw
  simp only [q_if, q_orT, q_notT, q_tru, q_call, q_tup, q_args1, q_args0, q_C, q_var, q_slot10, q_slot9, q_slot7, q_allD0, q_allD1]
  rw [hn] at S
  refine ⟨by simp, (A, ⟨"rb", []⟩, st0, r), rfl, S, trivial, ?_⟩
  subst h1
  refine ⟨by simp, same_ok T ⟨trivial, ?_⟩⟩
  simp only [q_truV, q_truB, Bool.not_true]
  refine ⟨by simp, (A, "g", ask0, rc, ⟨"t", ["a", "b"]⟩), rfl, ⟨ha, hrc, ht, fun w hw => ?_⟩, trivial, ?_⟩
  · have : rc ∈ A.rols := List.mem_of_find?_eq_some hrc
    exact G.ok rc this w hw
  show (noLs _ ∧ sp__law_same [.d (.bool (!(waysL (rc.win "t")).any canB)), _] _)
  rw [h2]
  refine ⟨by simp, same_ok (d := .bool true) (by simp [tupD]) ⟨trivial, ?_⟩⟩
  simp only [q_truV, q_truB, Bool.not_true, q_nil]
  exact h _ _
/-- alike or not -/
theorem bh_alike (ot : List (List (List Int))) (k : StOk 1000 tb0 ot) (b : Bool) (h1 : PyData.eqv (sightA A0 rolB [] st0) (sightA A0 rolB [] ot) = b) (s0 s1 s2 s3 s5 s6 s7 s8 s10 s11 s12 : Option DV)
    (h : ∀ s7 s11, D.nx [s0, s1, s2, s3, some (.d (eApp A0)), s5, s6, s7, s8, some (.d (eSt st0)), s10, s11, s12]) :
    (match (Tg.tp [11, 7]).bind (.tuple [eSt ot, .bool b]) [s0, s1, s2, s3, some (.d (eApp A0)), s5, s6, s7, s8, some (.d (eSt st0)), s10, s11, s12] with
      | some en' => (wIf (wNotT (wTru (wCall sp__law_same [(wCall sp_are_alike [(wVar 4), (wTup [(wC (.str "rb")), (wTup [])]), (wVar 9), (wVar 11)]), (wVar 7)]))) (wRet (wC (.bool false))) wNil) D en'
      | none => False) := by
  rw [q_bindT, q_bindE1, q_bindE1, q_bindE0]
  show wIf _ _ _ _ [s0, s1, s2, s3, some (.d (eApp A0)), s5, s6, some (.d (.bool b)), s8, some (.d (eSt st0)), s10, some (.d (eSt ot)), s12]
  simp only [q_if, q_notT, q_tru, q_call, q_tup, q_args1, q_args0, q_C, q_var, q_slot4, q_slot9, q_slot11, q_slot7, q_allD0, q_allD1]
  refine ⟨by simp, (A0, pB, st0, ot, rolB), rfl, ⟨sees0 k_st0, sees0 k⟩, trivial, ?_⟩
  show (noLs _ ∧ sp__law_same [.d (.bool (PyData.eqv (sightA A0 rolB [] st0) (sightA A0 rolB [] ot))), _] _)
  rw [h1]
  refine ⟨by simp, same_ok (d := .bool b) (by simp [tupD]) ⟨trivial, ?_⟩⟩
  simp only [q_truV, q_truB, Bool.not_true, q_nil]
  exact h _ _
end
/-! ### displays of constants -/
def CE (en : En) (we : EW) (d : PyData) : Prop := ∀ Q : DV → Prop, Q (.d d) → we en Q
def CEs (en : En) (ws : List EW) (ds : List PyData) : Prop := ∀ k : List DV → Prop, k (ds.map .d) → wArgs ws en k
theorem allD_map : ∀ (ds : List PyData) (k : List PyData → Prop), k ds → allD (ds.map .d) k
  | [], k, h => h
  | d :: ds, k, h => by
    rw [List.map_cons, q_allD1]
    exact allD_map ds _ h
theorem noLs_map : ∀ ds : List PyData, noLs (ds.map .d)
  | [] => trivial
  | d :: ds => ⟨trivial, noLs_map ds⟩
section
variable {en : En} {a : EW} {ws : List EW} {d : PyData} {ds : List PyData}
theorem CE.use (h : CE en a d) {Q : DV → Prop} (q : Q (.d d)) : a en Q := h Q q
theorem CEs.use (h : CEs en ws ds) {k : List DV → Prop} (q : k (ds.map .d)) : wArgs ws en k := h k q
theorem ces_nil : CEs en [] [] := fun k h => h
theorem ces_cons (h : CE en a d) (hs : CEs en ws ds) : CEs en (a :: ws) (d :: ds) := fun k q => h _ (hs _ q)
theorem ce_C : CE en (wC d) d := fun Q q => q
theorem ce_var {i : Nat} (h : slotOf en i = some (.d d)) : CE en (wVar i) d := fun Q q => by
  rw [q_var, h]
  exact q
theorem ce_tup (h : CEs en ws ds) : CE en (wTup ws) (.tuple ds) := fun Q q => h _ (allD_map ds _ q)
theorem ce_lst (h : CEs en ws ds) : CE en (wLst ws) (.list ds) := fun Q q => h _ (allD_map ds _ q)
theorem ce_call {sp : SpD} (h : CEs en ws ds) (hs : ∀ Q : DV → Prop, Q (.d d) → sp (ds.map .d) Q) : CE en (wCall sp ws) d := fun Q q => h _ ⟨noLs_map ds, hs _ ⟨trivial, q⟩⟩
theorem ce_tupL (h : CE en a (.list ds)) : CE en (wBlt (one tupF) [a]) (.tuple ds) := fun Q q => h _ q
theorem ce_rev (h : CE en a (.tuple ds)) : CE en (wStep a (wNeg (wC (.int 1)))) (.tuple ds.reverse) := fun Q q => h _ (.inr ⟨rfl, q⟩)
theorem ce_ixL {i : Int} (h : CE en a (.list ds)) (hi : atI ds i = some d) : CE en (wIx a (wC (.int i))) d := fun Q q => h _ (by
  show match atI ds i with
    | some d => Q (.d d)
    | none => False
  rw [hi]; exact q)
theorem ce_ixT {i : Int} (h : CE en a (.tuple ds)) (hi : atI ds i = some d) : CE en (wIx a (wC (.int i))) d := fun Q q => h _ (by
  show match atI ds i with
    | some d => Q (.d d)
    | none => False
  rw [hi]; exact q)
end
theorem fin__law_by_hand (xs : List DV) (R : DV → Prop) (h : sp__law_by_hand xs R) : w__law_by_hand { nx := fun _ => R (.d .none), rt := R } (startE 13 xs) := by
  obtain ⟨rfl, hR⟩ := h
  unfold w__law_by_hand startE
  generalize hD : ({ nx := fun _ => R (.d .none), rt := R } : DEnds) = D0
  have hrt : ∀ x, D0.rt x = R x := by intro x; rw [← hD]
  clear hD
  rw [q_seq, q_set]
  refine CE.use (d := eLot tied) (by repeat (first | exact ces_nil | refine ces_cons ?_ ?_ | exact ce_C | exact ce_var rfl | refine ce_tup ?_ | refine ce_lst ?_)) ⟨trivial, ?_⟩
  rw [sq_nx, q_seq, q_set]
  refine CE.use (d := eLot turn0) (by repeat (first | exact ces_nil | refine ces_cons ?_ ?_ | exact ce_C | exact ce_var rfl | refine ce_tup ?_ | refine ce_lst ?_)) ⟨trivial, ?_⟩
  rw [sq_nx, q_seq, q_set]
  refine CE.use (d := .tuple (gone.map eLk)) (by repeat (first | exact ces_nil | refine ces_cons ?_ ?_ | exact ce_C | exact ce_var rfl | refine ce_tup ?_ | refine ce_lst ?_)) ⟨trivial, ?_⟩
  rw [sq_nx]
  show wSeq _ _ _ [some (.d (eLot tied)), some (.d (eLot turn0)), some (.d (.tuple (gone.map eLk))), none, none, none, none, none, none, none, none, none, none]
  rw [q_seq, q_own]
  refine CEs.use (ds := [eRol rA]) (by repeat (first | exact ces_nil | refine ces_cons ?_ ?_ | exact ce_C | exact ce_var rfl | refine ce_tup ?_ | refine ce_lst ?_)) ?_
  show allD [.d (eRol rA)] _
  rw [q_allD1, q_allD0, sq_nx]
  show wSeq _ _ _ [some (.d (eLot tied)), some (.d (eLot turn0)), some (.d (.tuple (gone.map eLk))), some (.l [eRol rA]), none, none, none, none, none, none, none, none, none]
  rw [q_seq, q_app, q_slot3]
  show (wTup _) _ _
  refine CE.use (d := eRol rolB) (by repeat (first | exact ces_nil | refine ces_cons ?_ ?_ | exact ce_C | exact ce_var rfl | exact ce_rev (ds := gone.map eLk) (ce_var rfl) | refine ce_tup ?_)) ?_
  rw [q_onD]
  refine ⟨by rw [sz_eq]; simp, ?_⟩
  rw [sq_nx]
  show wSeq _ _ _ [some (.d (eLot tied)), some (.d (eLot turn0)), some (.d (.tuple (gone.map eLk))), some (.l [eRol rA, eRol rolB]), none, none, none, none, none, none, none, none, none]
  rw [q_seq, q_app, q_slot3]
  show (wTup _) _ _
  refine CE.use (d := eRol rC) (by repeat (first | exact ces_nil | refine ces_cons ?_ ?_ | exact ce_C | exact ce_var rfl | refine ce_tup ?_ | refine ce_lst ?_)) ?_
  rw [q_onD]
  refine ⟨by rw [sz_eq]; simp, ?_⟩
  rw [sq_nx]
  show wFrz _ _ _ [some (.d (eLot tied)), some (.d (eLot turn0)), some (.d (.tuple (gone.map eLk))), some (.l [eRol rA, eRol rolB, eRol rC]), none, none, none, none, none, none, none, none, none]
  rw [q_frz, q_slot3]
  show wSeq _ _ _ [some (.d (eLot tied)), some (.d (eLot turn0)), some (.d (.tuple (gone.map eLk))), some (.d (.list [eRol rA, eRol rolB, eRol rC])), none, none, none, none, none, none, none, none, none]
  rw [q_seq, q_set]
  refine CE.use (d := eApp A0) (by repeat (first | exact ces_nil | refine ces_cons ?_ ?_ | exact ce_C | exact ce_tupL (ds := [eRol rA, eRol rolB, eRol rC]) (ce_var rfl) | refine ce_tup ?_)) ⟨trivial, ?_⟩
  rw [sq_nx]
  show wSeq _ _ _ [some (.d (eLot tied)), some (.d (eLot turn0)), some (.d (.tuple (gone.map eLk))), some (.d (.list [eRol rA, eRol rolB, eRol rC])), some (.d (eApp A0)), none, none, none, none, none, none, none, none]
  rw [q_seq, q_for, q_seqI]
  refine CE.use (d := .list [.tuple [.str "ra", .str "u", .tuple [.int 0]], .tuple [.str "ra", .str "t", .tuple [.int 1]], .tuple [.str "rb", .str "t", .tuple [.int 1]], .tuple [.str "rb", .str "u", .tuple [.int 0]], .tuple [.str "rc", .str "t", .tuple [.int 1]], .tuple [.str "rc", .str "u", .tuple []]]) (by repeat (first | exact ces_nil | refine ces_cons ?_ ?_ | exact ce_C | exact ce_var rfl | refine ce_tup ?_ | refine ce_lst ?_)) ?_
  rw [q_onD, q_seqL, q_loop1]
  refine bh_spare "ra" "u" rA ⟨"u", ["a"]⟩ wA1 _ (by kernel_rfl) (by kernel_rfl) (by kernel_rfl) (by kernel_rfl) (by kernel_rfl) _ _ _ _ _ _ _ _ _ _ _ _ fun s5 s6 s7 => ?_
  rw [lp_nx, q_loop1]
  refine bh_spare "ra" "t" rA ⟨"t", ["a", "b"]⟩ wA2 _ (by kernel_rfl) (by kernel_rfl) (by kernel_rfl) (by kernel_rfl) (by kernel_rfl) _ _ _ _ _ _ _ _ _ _ _ _ fun s5 s6 s7 => ?_
  rw [lp_nx, q_loop1]
  refine bh_spare "rb" "t" rolB ⟨"t", ["a", "b"]⟩ wB1 _ (by kernel_rfl) (by kernel_rfl) (by kernel_rfl) (by kernel_rfl) (by kernel_rfl) _ _ _ _ _ _ _ _ _ _ _ _ fun s5 s6 s7 => ?_
  rw [lp_nx, q_loop1]
  refine bh_spare "rb" "u" rolB ⟨"u", ["a"]⟩ wB2 _ (by kernel_rfl) (by kernel_rfl) (by kernel_rfl) (by kernel_rfl) (by kernel_rfl) _ _ _ _ _ _ _ _ _ _ _ _ fun s5 s6 s7 => ?_
  rw [lp_nx, q_loop1]
  refine bh_spare "rc" "t" rC ⟨"t", ["a", "b"]⟩ wC1 _ (by kernel_rfl) (by kernel_rfl) (by kernel_rfl) (by kernel_rfl) (by kernel_rfl) _ _ _ _ _ _ _ _ _ _ _ _ fun s5 s6 s7 => ?_
  rw [lp_nx, q_loop1]
  refine bh_spare "rc" "u" rC ⟨"u", ["a"]⟩ wC2 _ (by kernel_rfl) (by kernel_rfl) (by kernel_rfl) (by kernel_rfl) (by kernel_rfl) _ _ _ _ _ _ _ _ _ _ _ _ fun s5 s6 s7 => ?_
  rw [lp_nx, q_loop0, sq_nx, q_seq, q_own]
  refine CEs.use (ds := [eRol rA', eRol rolB']) (by repeat (first | exact ces_nil | refine ces_cons ?_ ?_ | exact ce_C | exact ce_var rfl | refine ce_tup ?_ | refine ce_lst ?_)) ?_
  show allD [.d (eRol rA'), .d (eRol rolB')] _
  rw [q_allD1, q_allD1, q_allD0, sq_nx]
  show wSeq _ _ _ [some (.d (eLot tied)), some (.d (eLot turn0)), some (.d (.tuple (gone.map eLk))), some (.d (.list [eRol rA, eRol rolB, eRol rC])), some (.d (eApp A0)), s5, s6, s7, some (.l [eRol rA', eRol rolB']), none, none, none, none]
  rw [q_seq, q_app, q_slot8]
  show (wTup _) _ _
  refine CE.use (d := eRol rC') (by repeat (first | exact ces_nil | refine ces_cons ?_ ?_ | exact ce_C | exact ce_ixT (ds := [eWin wC1, eWin wC2]) (ce_ixT (ds := [.str "rc", .tuple [.str "p"], .tuple [eWin wC1, eWin wC2]]) (ce_ixL (ds := [eRol rA, eRol rolB, eRol rC]) (ce_var rfl) q_at2) q_at2) q_at1 | refine ce_tup ?_)) ?_
  rw [q_onD]
  refine ⟨by rw [sz_eq]; simp, ?_⟩
  rw [sq_nx]
  show wFrz _ _ _ [some (.d (eLot tied)), some (.d (eLot turn0)), some (.d (.tuple (gone.map eLk))), some (.d (.list [eRol rA, eRol rolB, eRol rC])), some (.d (eApp A0)), s5, s6, s7, some (.l [eRol rA', eRol rolB', eRol rC']), none, none, none, none]
  rw [q_frz, q_slot8]
  show wSeq _ _ _ [some (.d (eLot tied)), some (.d (eLot turn0)), some (.d (.tuple (gone.map eLk))), some (.d (.list [eRol rA, eRol rolB, eRol rC])), some (.d (eApp A0)), s5, s6, s7, some (.d (.list [eRol rA', eRol rolB', eRol rC'])), none, none, none, none]
  have fitT : A0.rols.length ≤ 1000 ∧ ∀ r ∈ A0.rols, r.wins.length ≤ 1000 ∧ ∀ w ∈ r.wins, w.ok := ⟨by have := good0.rols; omega, fun r hr => ⟨by have := good0.wins r hr; omega, good0.ok r hr⟩⟩
  have callT : ∀ en : En, slotOf en 4 = some (.d (eApp A0)) → CE en (wCall sp_trimmed [(wVar 4)]) (eApp L0) := fun en h => ce_call (ds := [eApp A0]) (ces_cons (ce_var h) ces_nil) fun Q q => ⟨A0, rfl, fitT, by show Q (.d (eApp (trimA A0))); rw [trim0]; exact q⟩
  have callI : ∀ en : En, slotOf en 4 = some (.d (eApp A0)) → CE en (wCall sp_idle_windows [(wVar 4)]) (.tuple [eP ("rb", "t")]) := fun en h => ce_call (ds := [eApp A0]) (ces_cons (ce_var h) ces_nil) fun Q q => ⟨A0, rfl, good0.fit, by show Q (.d (eIdles (idlesA A0))); rw [idle0]; exact q⟩
  have callJ : ∀ en : En, slotOf en 12 = some (.d (eApp Z0)) → CE en (wCall sp_idle_windows [(wVar 12)]) (.tuple [eP ("ry", "t"), eP ("ry", "u"), eP ("rz", "t")]) := fun en h => ce_call (ds := [eApp Z0]) (ces_cons (ce_var h) ces_nil) fun Q q => ⟨Z0, rfl, goodZ.fit, by show Q (.d (eIdles (idlesA Z0))); rw [idleZ]; exact q⟩
  have zZ : sizesA Z0 = [2, 3, 2, 3, 0, 0] := by kernel_rfl
  have zA : sizesA A0 = [2, 3, 3, 6, 1, 0] := by kernel_rfl
  have callZ : ∀ en : En, slotOf en 12 = some (.d (eApp Z0)) → CE en (wCall sp_sizes [(wVar 12)]) (.tuple [.int 2, .int 3, .int 2, .int 3, .int 0, .int 0]) := fun en h => ce_call (ds := [eApp Z0]) (ces_cons (ce_var h) ces_nil) fun Q q => ⟨Z0, rfl, ⟨by decide, by decide⟩, by show Q (.d (.tuple ((sizesA Z0).map .int))); rw [zZ]; exact q⟩
  have callA : ∀ en : En, slotOf en 4 = some (.d (eApp A0)) → CE en (wCall sp_sizes [(wVar 4)]) (.tuple [.int 2, .int 3, .int 3, .int 6, .int 1, .int 0]) := fun en h => ce_call (ds := [eApp A0]) (ces_cons (ce_var h) ces_nil) fun Q q => ⟨A0, rfl, ⟨by decide, by decide⟩, by show Q (.d (.tuple ((sizesA A0).map .int))); rw [zA]; exact q⟩
  have same : ∀ (en : En) (a b : EW) (d : PyData), CE en a d → CE en b d → tupD d = true → d.depth ≤ 12 → CE en (wCall sp__law_same [a, b]) (.bool true) := fun en a b d ha hb h1 h2 => ce_call (ds := [d, d]) (ces_cons ha (ces_cons hb ces_nil)) fun Q q => ⟨d, rfl, h1, h2, q⟩
  have cond2 : ∀ (en : En) (a b : EW) (D : DEnds), CE en a (.bool true) → CE en b (.bool true) → D.nx en → (wIf (wOrT (wNotT (wTru a)) (wNotT (wTru b))) (wRet (wC (.bool false))) wNil) D en := fun en a b D ha hb h => by
    rw [q_if, q_orT, q_notT, q_tru]
    refine ha.use ?_
    rw [q_truV, q_truB]
    show wNotT (wTru b) en _
    rw [q_notT, q_tru]
    refine hb.use ?_
    rw [q_truV, q_truB]
    exact h
  rw [q_seq]
  refine cond2 _ _ _ _ (same _ _ _ (.tuple [eP ("rb", "t")]) (callI _ rfl) (by repeat (first | exact ces_nil | refine ces_cons ?_ ?_ | exact ce_C | exact ce_var rfl | refine ce_tup ?_ | refine ce_lst ?_)) (by simp [tupD, tupAll, eP]) (by simp [eP, PyData.depth, PyData.depthAll]))
    (same _ _ _ (eApp L0) (callT _ rfl) (by repeat (first | exact ces_nil | refine ces_cons ?_ ?_ | exact ce_C | exact ce_tupL (ds := [eRol rA', eRol rolB', eRol rC']) (ce_var rfl) | exact ce_ixT (ds := [.tuple (tb0.map eTbl), .tuple [eRol rA, eRol rolB, eRol rC], .tuple [eAsk ask0], .tuple []]) (ce_var rfl) q_at0 | exact ce_ixT (ds := [.tuple (tb0.map eTbl), .tuple [eRol rA, eRol rolB, eRol rC], .tuple [eAsk ask0], .tuple []]) (ce_var rfl) q_at2 | refine ce_tup ?_)) (tup_App goodL).1 (tup_App goodL).2) ?_
  rw [sq_nx, q_seq, q_set]
  refine CE.use (d := eSt st0) (by repeat (first | exact ces_nil | refine ces_cons ?_ ?_ | exact ce_C | exact ce_var rfl | refine ce_tup ?_ | refine ce_lst ?_)) ⟨trivial, ?_⟩
  rw [sq_nx]
  show wSeq _ _ _ [some (.d (eLot tied)), some (.d (eLot turn0)), some (.d (.tuple (gone.map eLk))), some (.d (.list [eRol rA, eRol rolB, eRol rC])), some (.d (eApp A0)), s5, s6, s7, some (.d (.list [eRol rA', eRol rolB', eRol rC'])), some (.d (eSt st0)), none, none, none]
  rw [q_seq, q_for, q_seqI]
  refine CE.use (d := .list [.tuple [eApp A0, .tuple [.tuple [], .tuple [e1 1, e1 2]]], .tuple [eApp L0, .tuple [.none, .tuple [e1 1, e1 2]]]]) (by repeat (first | exact ces_nil | refine ces_cons ?_ ?_ | exact ce_C | exact callT _ rfl | exact ce_var rfl | refine ce_tup ?_ | refine ce_lst ?_)) ?_
  rw [q_onD, q_seqL, q_loop1]
  refine bh_sight (A := A0) rolB rC _ good0 fits0 (by simp [A0]) rfl rfl rfl s_st0 (by kernel_rfl) (by kernel_rfl) (by kernel_rfl) (by kernel_rfl) _ _ _ _ _ _ _ _ _ _ _ _ fun s7 s10 => ?_
  rw [lp_nx, q_loop1]
  refine bh_sight (A := L0) rolB' rC' _ goodL fitsL (by simp [L0]) rfl rfl rfl sightL (by kernel_rfl) (by kernel_rfl) (by kernel_rfl) (by kernel_rfl) _ _ _ _ _ _ _ _ _ _ _ _ fun s7 s10 => ?_
  rw [lp_nx, q_loop0, sq_nx, q_seq, q_for, q_seqI]
  refine CE.use (d := .list [.tuple [eSt ot1, .bool false], .tuple [eSt ot2, .bool true], .tuple [eSt ot3, .bool false]]) (by repeat (first | exact ces_nil | refine ces_cons ?_ ?_ | exact ce_C | exact ce_var rfl | refine ce_tup ?_ | refine ce_lst ?_)) ?_
  rw [q_onD, q_seqL, q_loop1]
  refine bh_alike ot1 k_ot1 false (by rw [s_st0, s_ot1]; decide +kernel) _ _ _ _ _ _ _ _ _ _ _ fun s7 s11 => ?_
  rw [lp_nx, q_loop1]
  refine bh_alike ot2 k_ot2 true (by rw [s_st0, s_ot2]; decide +kernel) _ _ _ _ _ _ _ _ _ _ _ fun s7 s11 => ?_
  rw [lp_nx, q_loop1]
  refine bh_alike ot3 k_ot3 false (by rw [s_st0, s_ot3]; decide +kernel) _ _ _ _ _ _ _ _ _ _ _ fun s7 s11 => ?_
  rw [lp_nx, q_loop0, sq_nx, q_seq, q_set]
  refine CE.use (d := eApp Z0) (by repeat (first | exact ces_nil | refine ces_cons ?_ ?_ | exact ce_C | exact ce_ixT (ds := [.tuple (tb0.map eTbl), .tuple [eRol rA, eRol rolB, eRol rC], .tuple [eAsk ask0], .tuple []]) (ce_var rfl) q_at0 | exact ce_var rfl | refine ce_tup ?_)) ⟨trivial, ?_⟩
  rw [sq_nx]
  show wSeq _ _ _ [some (.d (eLot tied)), some (.d (eLot turn0)), some (.d (.tuple (gone.map eLk))), some (.d (.list [eRol rA, eRol rolB, eRol rC])), some (.d (eApp A0)), s5, s6, s7, some (.d (.list [eRol rA', eRol rolB', eRol rC'])), some (.d (eSt st0)), s10, s11, some (.d (eApp Z0))]
  rw [q_seq]
  refine cond2 _ _ _ _ (same _ _ _ (.tuple [eP ("ry", "t"), eP ("ry", "u"), eP ("rz", "t")]) (callJ _ rfl) (by repeat (first | exact ces_nil | refine ces_cons ?_ ?_ | exact ce_C | exact ce_var rfl | refine ce_tup ?_ | refine ce_lst ?_)) (by simp [tupD, tupAll, eP]) (by simp [eP, PyData.depth, PyData.depthAll]))
    (same _ _ _ (.tuple [.int 2, .int 3, .int 2, .int 3, .int 0, .int 0]) (callZ _ rfl) (by repeat (first | exact ces_nil | refine ces_cons ?_ ?_ | exact ce_C | exact ce_var rfl | refine ce_tup ?_ | refine ce_lst ?_)) (by simp [tupD, tupAll]) (by simp [PyData.depth, PyData.depthAll])) ?_
  rw [sq_nx, q_ret]
  refine (same _ _ _ (.tuple [.int 2, .int 3, .int 3, .int 6, .int 1, .int 0]) (callA _ rfl) (by repeat (first | exact ces_nil | refine ces_cons ?_ ?_ | exact ce_C | exact ce_var rfl | refine ce_tup ?_ | refine ce_lst ?_)) (by simp [tupD, tupAll]) (by simp [PyData.depth, PyData.depthAll])).use ?_
  rw [q_unLd, hrt]
  exact hR
end K85

set_option maxRecDepth 100000
set_option maxHeartbeats 1000000
namespace L2
theorem Room.units1 {k : Nat} {A : PySem.Around} (r : Room k A) : A.units + 1 < PySem.cLine := by have := r.un; omega
theorem Room.units65 {k : Nat} {A : PySem.Around} (r : Room k A) : A.units + 65 < PySem.cLine := by have := r.un; omega
end L2
namespace K85
open PySem L2 DL
/-- built-in names are not the module's -/
structure Txt (mg : Str → Option Value) : Prop where
  len : mg "len" = none
  tuple : mg "tuple" = none
  list : mg "list" = none
  int : mg "int" = none
  sorted : mg "sorted" = none
  sum : mg "sum" = none
  min : mg "min" = none
  max : mg "max" = none
  range : mg "range" = none
  enumerate : mg "enumerate" = none
  isinstance : mg "isinstance" = none
  str : mg "str" = none
  bool : mg "bool" = none
  dict : mg "dict" = none
  abs : mg "abs" = none
theorem mono__law_bale {b : Addr} : MonoS (sp__law_bale b) := fun xs Q Q' i ⟨m, e, p, h⟩ => ⟨m, e, p, fun r hr => i _ (h r hr)⟩
theorem mono__law_door {b : Addr} : MonoS (sp__law_door b) := fun xs Q Q' i ⟨m, n, e, p, q, r, h⟩ => ⟨m, n, e, p, q, r, fun r hr => i _ (h r hr)⟩
theorem mono__law_look {b : Addr} : MonoS (sp__law_look b) := fun xs Q Q' i ⟨m, n, e, p, h⟩ => ⟨m, n, e, p, fun r hr => i _ (h r hr)⟩
theorem mono__law_lot {b : Addr} : MonoS (sp__law_lot b) := fun xs Q Q' i ⟨m, n, k, e, p, q, h⟩ => ⟨m, n, k, e, p, q, fun r hr hf => i _ (h r hr hf)⟩
theorem mono__law_second {b : Addr} : MonoS (sp__law_second b) := fun xs Q Q' i ⟨m, n, k, e, p, q, r, h⟩ => ⟨m, n, k, e, p, q, r, fun r hr hf => i _ (h r hr hf)⟩
theorem mono__law_store {b : Addr} : MonoS (sp__law_store b) := fun xs Q Q' i ⟨m, n, k, e, p, q, r, s, t, h⟩ => ⟨m, n, k, e, p, q, r, s, t, fun r hr => i _ (h r hr)⟩
theorem mono__law_sights_right {b : Addr} : MonoS (sp__law_sights_right b) := fun xs Q Q' i ⟨A, e, p, q, r, h⟩ => ⟨A, e, p, q, r, i _ h⟩
theorem mono__law_app {b : Addr} : MonoS (sp__law_app b) := fun xs Q Q' i ⟨e, h⟩ => ⟨e, fun A g f t => i _ (h A g f t)⟩
theorem mono__law_by_hand : MonoS sp__law_by_hand := fun xs Q Q' i ⟨e, h⟩ => ⟨e, i _ h⟩
theorem mono_own_maker {K : PySem.W.Frag} {C : Addr} : MonoS (sp_own_maker K C) := fun xs Q Q' i ⟨A, n, a, e, p, h⟩ => ⟨A, n, a, e, p, i _ h⟩
theorem mono_mk_WayMaker {K : PySem.W.Frag} {C : Addr} : MonoS (mk_sp_WayMaker K C) := fun xs Q Q' i ⟨A, a, e, h⟩ => ⟨A, a, e, i _ h⟩
theorem mono_same {n : Nat} : MonoS (same_n n) := fun xs Q Q' i ⟨d, e, p, q, h⟩ => ⟨d, e, p, q, i _ h⟩
theorem pmono__law_facts : ∀ p ∈ ([("f", (wTup [(wC (.str "o")), (wIx (wVar 5) (wC (.int 1)))])), ("b", (wTup [(wC (.str "v")), (wIx (wVar 5) (wC (.int 1)))])), ("c", (wTup [(wC (.str "c")), (wIx (wVar 5) (wC (.int 1)))]))] : List (Str × EW)), ∀ (en : En) (Q Q' : DV → Prop), (∀ x, Q x → Q' x) → p.2 en Q → p.2 en Q' := by
  have one : ∀ (z : Str) (en : En) (Q Q' : DV → Prop), (∀ x, Q x → Q' x) → wTup [(wC (.str z)), (wIx (wVar 5) (wC (.int 1)))] en Q → wTup [(wC (.str z)), (wIx (wVar 5) (wC (.int 1)))] en Q' := by
    intro z en Q Q' i h
    simp only [q_tup, q_args1, q_args0, q_ix, q_var, q_C, q_onD] at h ⊢
    cases e : slotOf en 5 with
    | none => rw [e] at h; exact h
    | some x =>
      rw [e] at h
      have h : ixF (asL x) (.int 1) fun d => allD [.d (.str z), .d d] fun ds => Q (.d (.tuple ds)) := h
      show ixF (asL x) (.int 1) fun d => allD [.d (.str z), .d d] fun ds => Q' (.d (.tuple ds))
      exact m_ix _ _ _ _ (fun d h => by
        simp only [q_allD1, q_allD0] at h ⊢
        exact i _ h) h
  intro p hp
  simp only [List.mem_cons, List.not_mem_nil, or_false] at hp
  rcases hp with rfl | rfl | rfl
  · exact one _
  · exact one _
  · exact one _
end K85

set_option maxRecDepth 100000
set_option maxHeartbeats 1000000
namespace K85
open PySem L2 DL
/-! ### terms joined by their parents -/
abbrev Ov := List (T × T)
def lookT (ov : Ov) (t : T) : Option T := (ov.find? fun e => decide (e.1 = t)).map (·.2)
def putT (ov : Ov) (t u : T) : Ov := if ov.any (fun e => decide (e.1 = t)) then ov.map (fun e => if e.1 = t then (e.1, u) else e) else ov ++ [(t, u)]
theorem lookT_any (t : T) : ∀ ov : Ov, (ov.any fun e => decide (e.1 = t)) = (lookT ov t).isSome
  | [] => rfl
  | e :: ov => by
    have ih := lookT_any t ov
    unfold lookT at ih ⊢
    by_cases q : e.1 = t
    · simp [q]
    · simpa [q] using ih
theorem lookT_put (ov : Ov) (t u x : T) : lookT (putT ov t u) x = if x = t then some u else lookT ov x := by
  unfold putT
  by_cases q : (ov.any fun e => decide (e.1 = t)) = true
  · rw [if_pos q]
    induction ov with
    | nil => simp at q
    | cons e ov ih =>
      rw [List.map_cons]
      unfold lookT at ih ⊢
      by_cases z : e.1 = t
      · rw [if_pos z]
        by_cases y : x = t
        · subst y; simp [z]
        · rw [if_neg y]
          have n1 : ¬ e.1 = x := fun h => y (h.symm.trans z)
          rw [List.find?_cons_of_neg (by simpa using n1), List.find?_cons_of_neg (by simpa using n1)]
          by_cases w : (ov.any fun e => decide (e.1 = t)) = true
          · have := ih w
            rw [if_neg y] at this
            exact this
          · have e2 : (ov.map fun e => if e.1 = t then (e.1, u) else e) = ov := by
              conv => rhs; rw [← List.map_id ov]
              refine List.map_congr_left fun a ha => ?_
              have : ¬ a.1 = t := fun h => w (List.any_eq_true.mpr ⟨a, ha, by simpa using h⟩)
              rw [if_neg this]; rfl
            rw [e2]
      · rw [if_neg z]
        have w : (ov.any fun e => decide (e.1 = t)) = true := by simpa [z] using q
        by_cases y : e.1 = x
        · have : ¬ x = t := fun h => z (y.trans h)
          rw [if_neg this]
          simp [y]
        · rw [List.find?_cons_of_neg (by simpa using y), List.find?_cons_of_neg (by simpa using y)]
          exact ih w
  · rw [if_neg q]
    unfold lookT
    rw [List.find?_append]
    by_cases y : x = t
    · subst y
      rw [if_pos rfl]
      have : ov.find? (fun e => decide (e.1 = x)) = none := List.find?_eq_none.mpr fun a ha h => q (List.any_eq_true.mpr ⟨a, ha, h⟩)
      rw [this]
      simp
    · rw [if_neg y]
      have n1 : ¬ t = x := fun h => y h.symm
      cases ov.find? (fun e => decide (e.1 = x)) <;> simp [n1]
/-- n steps lead from t up to u -/
inductive Up (ov : Ov) : Nat → T → T → Prop
  | here {t : T} : (lookT ov t = none ∨ lookT ov t = some t) → Up ov 0 t t
  | step {n : Nat} {t p u : T} : lookT ov t = some p → p ≠ t → Up ov n p u → Up ov (n + 1) t u
theorem Up.root {ov : Ov} {n : Nat} {t u : T} (h : Up ov n t u) : lookT ov u = none ∨ lookT ov u = some u := by
  induction h with
  | here h => exact h
  | step _ _ _ ih => exact ih
theorem Up.det {ov : Ov} {n m : Nat} {t u v : T} (h : Up ov n t u) (k : Up ov m t v) : u = v := by
  induction h generalizing m with
  | here h =>
    cases k with
    | here _ => rfl
    | step e ne _ => rcases h with h | h <;> rw [h] at e <;> cases e; exact absurd rfl ne
  | step e ne _ ih =>
    cases k with
    | here h => rcases h with h | h <;> rw [h] at e <;> cases e; exact absurd rfl ne
    | step e2 _ k => rw [e] at e2; cases e2; exact ih k
/-- ρ tells each term's top -/
def Roots (ov : Ov) (ρ : T → T) : Prop := ∀ t, ∃ n, Up ov n t (ρ t)
theorem Roots.nil : Roots [] id := fun t => ⟨0, .here (.inl rfl)⟩
theorem Roots.idem {ov : Ov} {ρ : T → T} (h : Roots ov ρ) (t : T) : ρ (ρ t) = ρ t := by
  obtain ⟨n, u⟩ := h t
  obtain ⟨m, v⟩ := h (ρ t)
  exact v.det (.here u.root)
/-- setdefault of a term by itself -/
theorem Roots.self {ov : Ov} {ρ : T → T} (h : Roots ov ρ) {t : T} (hn : lookT ov t = none) : Roots (putT ov t t) ρ := by
  have one : ∀ n x u, Up ov n x u → Up (putT ov t t) n x u := by
    intro n x u k
    induction k with
    | @here x k =>
      refine .here ?_
      rw [lookT_put]
      by_cases e : x = t
      · subst e; simp
      · rw [if_neg e]; exact k
    | @step n x p u e ne k ih =>
      refine .step ?_ ne ih
      rw [lookT_put, if_neg (by rintro rfl; rw [hn] at e; cases e)]
      exact e
  intro x
  obtain ⟨n, k⟩ := h x
  exact ⟨n, one _ _ _ k⟩
def link (ρ : T → T) (a b : T) : T → T := fun x => if ρ x = ρ a then ρ b else ρ x
/-- the top of a gets the top of b as its parent -/
theorem Roots.link {ov : Ov} {ρ : T → T} (h : Roots ov ρ) (a b : T) (hk : lookT ov (ρ a) ≠ none) : Roots (putT ov (ρ a) (ρ b)) (link ρ a b) := by
  obtain ⟨na, ka⟩ := h a
  obtain ⟨nb, kb⟩ := h b
  by_cases eab : ρ a = ρ b
  · have e1 : K85.link ρ a b = ρ := by
      funext x
      unfold K85.link
      by_cases q : ρ x = ρ a
      · rw [if_pos q, q, eab]
      · rw [if_neg q]
    have e2 : ∀ x, lookT (putT ov (ρ a) (ρ b)) x = lookT ov x := by
      intro x
      rw [lookT_put]
      by_cases q : x = ρ a
      · subst q
        rw [if_pos rfl, ← eab]
        rcases ka.root with z | z
        · exact absurd z hk
        · exact z.symm
      · rw [if_neg q]
    rw [e1]
    intro x
    obtain ⟨n, k⟩ := h x
    refine ⟨n, ?_⟩
    clear h ka kb
    generalize ρ x = u at k ⊢
    induction k with
    | here k => exact .here (by rw [e2]; exact k)
    | step e ne _ ih => exact .step (by rw [e2]; exact e) ne ih
  · have one : ∀ n x u, Up ov n x u → ∃ m, Up (putT ov (ρ a) (ρ b)) m x (if u = ρ a then ρ b else u) := by
      intro n x u k
      induction k with
      | @here x k =>
        by_cases q : x = ρ a
        · rw [if_pos q]
          subst q
          refine ⟨1, .step (p := ρ b) (by rw [lookT_put, if_pos rfl]) (fun z => eab z.symm) (.here ?_)⟩
          rw [lookT_put, if_neg (fun z => eab z.symm)]
          exact kb.root
        · rw [if_neg q]
          refine ⟨0, .here ?_⟩
          rw [lookT_put, if_neg q]
          exact k
      | @step n x p u e ne k ih =>
        obtain ⟨m, ih⟩ := ih
        refine ⟨m + 1, .step ?_ ne ih⟩
        rw [lookT_put, if_neg]
        · exact e
        · rintro rfl
          rcases ka.root with z | z <;> rw [z] at e <;> cases e
          exact ne rfl
    intro x
    obtain ⟨n, k⟩ := h x
    exact one _ _ _ k
/-! ### what holds behind some facts -/
structure Jn (fs : List Fa) (ov : Ov) (ρ : T → T) : Prop where
  roots : Roots ov ρ
  keys : ∀ t, lookT ov t ≠ none ↔ ∃ f ∈ fs, t = f.a ∨ t = f.b
  kroot : ∀ t, lookT ov t ≠ none → lookT ov (ρ t) ≠ none
  eq : ∀ f ∈ fs, f.eq = true → ρ f.a = ρ f.b
  snd : ∀ v : T → Int, (∀ f ∈ fs, f.eq = true → v f.a = v f.b) → ∀ t, v t = v (ρ t)
  nd : (ov.map (·.1)).Nodup
theorem nd_putT {ov : Ov} (h : (ov.map (·.1)).Nodup) (t u : T) : ((putT ov t u).map (·.1)).Nodup := by
  unfold putT
  by_cases q : (ov.any fun e => decide (e.1 = t)) = true
  · rw [if_pos q, List.map_map]
    have : ((fun e : T × T => e.1) ∘ fun e => if e.1 = t then (e.1, u) else e) = fun e => e.1 := by
      funext e
      show (if e.1 = t then (e.1, u) else e).1 = e.1
      split <;> rfl
    rw [this]
    exact h
  · rw [if_neg q, List.map_append, List.nodup_append]
    refine ⟨h, by simp, fun a ha b hb => ?_⟩
    rintro rfl
    have e : a = t := by simpa using hb
    subst e
    obtain ⟨x, hx, e⟩ := List.mem_map.mp ha
    exact q (List.any_eq_true.mpr ⟨x, hx, by simpa using e⟩)
theorem Jn.nil : Jn [] [] id := ⟨Roots.nil, fun t => ⟨fun h => absurd rfl h, fun ⟨f, hf, _⟩ => by cases hf⟩, fun t h => h, fun f hf => (by cases hf), fun v _ t => rfl, by simp⟩
def setd (ov : Ov) (t : T) : Ov := match lookT ov t with
  | some _ => ov
  | none => putT ov t t
theorem lookT_setd (ov : Ov) (t x : T) : lookT (setd ov t) x = if x = t ∧ lookT ov t = none then some t else lookT ov x := by
  unfold setd
  cases e : lookT ov t with
  | some p => simp
  | none =>
    show lookT (putT ov t t) x = _
    rw [lookT_put]
    by_cases q : x = t <;> simp [q]
theorem Roots.setd {ov : Ov} {ρ : T → T} (h : Roots ov ρ) (t : T) : Roots (setd ov t) ρ := by
  unfold K85.setd
  cases e : lookT ov t with
  | some p => exact h
  | none => exact h.self e
theorem nd_setd {ov : Ov} (h : (ov.map (·.1)).Nodup) (t : T) : ((setd ov t).map (·.1)).Nodup := by
  unfold setd
  cases lookT ov t with
  | some p => exact h
  | none => exact nd_putT h t t
theorem setd_some (ov : Ov) (t x : T) : lookT (setd ov t) x ≠ none ↔ lookT ov x ≠ none ∨ x = t := by
  rw [lookT_setd]
  by_cases q : x = t
  · subst q
    by_cases z : lookT ov x = none
    · simp [z]
    · simp [z]
  · simp [q]
theorem Jn.add {fs : List Fa} {ov : Ov} {ρ : T → T} (J : Jn fs ov ρ) (f : Fa) : f.eq = false → Jn (fs ++ [f]) (setd (setd ov f.a) f.b) ρ := fun q =>
  ⟨(J.roots.setd _).setd _, fun t => by
    rw [setd_some, setd_some, J.keys]
    constructor
    · rintro ((⟨g, hg, h⟩ | h) | h)
      · exact ⟨g, by simp [hg], h⟩
      · exact ⟨f, by simp, .inl h⟩
      · exact ⟨f, by simp, .inr h⟩
    · rintro ⟨g, hg, h⟩
      rcases List.mem_append.mp hg with hg | hg
      · exact .inl (.inl ⟨g, hg, h⟩)
      · rw [List.mem_singleton.mp hg] at h
        rcases h with h | h
        · exact .inl (.inr h)
        · exact .inr h,
   fun t h => by
    rw [setd_some, setd_some] at h ⊢
    rcases h with (h | rfl) | rfl
    · exact .inl (.inl (J.kroot t h))
    · by_cases z : lookT ov f.a = none
      · obtain ⟨n, k⟩ := J.roots f.a
        have := k.det (.here (.inl z))
        exact .inl (.inr this)
      · exact .inl (.inl (J.kroot _ z))
    · by_cases z : lookT ov f.b = none
      · obtain ⟨n, k⟩ := J.roots f.b
        have := k.det (.here (.inl z))
        exact .inr this
      · exact .inl (.inl (J.kroot _ z)),
   (fun g hg e => by
    rcases List.mem_append.mp hg with hg | hg
    · exact J.eq g hg e
    · rw [List.mem_singleton.mp hg, q] at e; cases e),
   fun v hv t => J.snd v (fun g hg e => hv g (by simp [hg]) e) t, nd_setd (nd_setd J.nd _) _⟩
theorem Jn.join {fs : List Fa} {ov : Ov} {ρ : T → T} (J : Jn fs ov ρ) (f : Fa) (q : f.eq = true) : Jn (fs ++ [f]) (putT (setd (setd ov f.a) f.b) (ρ f.a) (ρ f.b)) (link ρ f.a f.b) := by
  have J1 := J.add { f with eq := false } rfl
  have ka : lookT (setd (setd ov f.a) f.b) (ρ f.a) ≠ none := J1.kroot f.a ((J1.keys _).mpr ⟨_, List.mem_append.mpr (.inr (List.mem_singleton.mpr rfl)), .inl rfl⟩)
  have kb : lookT (setd (setd ov f.a) f.b) (ρ f.b) ≠ none := J1.kroot f.b ((J1.keys _).mpr ⟨_, List.mem_append.mpr (.inr (List.mem_singleton.mpr rfl)), .inr rfl⟩)
  have same : ∀ t, lookT (putT (setd (setd ov f.a) f.b) (ρ f.a) (ρ f.b)) t ≠ none ↔ lookT (setd (setd ov f.a) f.b) t ≠ none := by
    intro t
    rw [lookT_put]
    by_cases z : t = ρ f.a
    · subst z; simp [ka]
    · rw [if_neg z]
  refine ⟨J1.roots.link f.a f.b ka, fun t => ?_, fun t h => ?_, fun g hg e => ?_, fun v hv t => ?_, nd_putT J1.nd _ _⟩
  · rw [same, J1.keys]
    constructor
    · rintro ⟨g, hg, h⟩
      rcases List.mem_append.mp hg with hg | hg
      · exact ⟨g, by simp [hg], h⟩
      · rw [List.mem_singleton.mp hg] at h
        exact ⟨f, by simp, h⟩
    · rintro ⟨g, hg, h⟩
      rcases List.mem_append.mp hg with hg | hg
      · exact ⟨g, by simp [hg], h⟩
      · rw [List.mem_singleton.mp hg] at h
        exact ⟨{ f with eq := false }, by simp, h⟩
  · rw [same] at h ⊢
    show lookT _ (if ρ t = ρ f.a then ρ f.b else ρ t) ≠ none
    by_cases z : ρ t = ρ f.a
    · rw [if_pos z]; exact kb
    · rw [if_neg z]; exact J1.kroot t h
  · show (if ρ g.a = ρ f.a then ρ f.b else ρ g.a) = (if ρ g.b = ρ f.a then ρ f.b else ρ g.b)
    rcases List.mem_append.mp hg with hg | hg
    · rw [J.eq g hg e]
    · rw [List.mem_singleton.mp hg]
      rw [if_pos rfl]
      by_cases z : ρ f.b = ρ f.a
      · rw [if_pos z]
      · rw [if_neg z]
  · have h1 := J.snd v fun g hg e => hv g (by simp [hg]) e
    have hf := hv f (by simp) q
    show v t = v (if ρ t = ρ f.a then ρ f.b else ρ t)
    by_cases z : ρ t = ρ f.a
    · rw [if_pos z, h1 t, z, ← h1 f.a, hf, h1 f.b]
    · rw [if_neg z]; exact h1 t
/-! ### the answer -/
theorem can_of {fs : List Fa} {ov : Ov} {ρ : T → T} (J : Jn fs ov ρ) : canB fs = true ↔ (∀ x y, lookT ov x ≠ none → lookT ov y ≠ none → ρ x = ρ y → isC x = true → isC y = true → x = y) ∧ ∀ f ∈ fs, f.eq = false → ρ f.a ≠ ρ f.b := by
  rw [can_iff]
  constructor
  · rintro ⟨v, hv⟩
    have := classes_of_sat (ts := []) (same := fun x y => ρ x = ρ y) (fun v hq x y e => by rw [J.snd v hq x, J.snd v hq y, e]) hv
    exact ⟨fun x y _ _ e cx cy => this.1 x y e cx cy, fun f hf q => this.2 f hf q⟩
  · rintro ⟨h1, h2⟩
    let ts : List T := fs.flatMap fun f => [f.a, f.b]
    have mem : ∀ t, t ∈ ts ↔ ∃ f ∈ fs, t = f.a ∨ t = f.b := by
      intro t
      simp [ts]
    let rts := ts.map ρ
    have inj : ∀ x ∈ ts, ∀ y ∈ ts, (rts.findIdx fun z => z == ρ x) = (rts.findIdx fun z => z == ρ y) → ρ x = ρ y := by
      intro x hx y hy e
      have hx' : ∃ z ∈ rts, (z == ρ x) = true := ⟨ρ x, List.mem_map.mpr ⟨x, hx, rfl⟩, by simp⟩
      have hy' : ∃ z ∈ rts, (z == ρ y) = true := ⟨ρ y, List.mem_map.mpr ⟨y, hy, rfl⟩, by simp⟩
      have lx := List.findIdx_lt_length.mpr hx'
      have ly := List.findIdx_lt_length.mpr hy'
      have gx : (rts[rts.findIdx fun z => z == ρ x] == ρ x) = true := List.findIdx_getElem (w := lx)
      have gy : (rts[rts.findIdx fun z => z == ρ y] == ρ y) = true := List.findIdx_getElem (w := ly)
      have e1 := eq_of_beq gx
      have e2 := eq_of_beq gy
      rw [← e1, ← e2]
      congr 1
    refine sat_of_classes ts fs (fun t => rts.findIdx fun z => z == ρ t) (fun f hf => ⟨(mem _).mpr ⟨f, hf, .inl rfl⟩, (mem _).mpr ⟨f, hf, .inr rfl⟩⟩) (fun f hf q => ?_) (fun x hx y hy cx cy e => ?_) fun f hf q e => ?_
    · show (rts.findIdx fun z => z == ρ f.a) = rts.findIdx fun z => z == ρ f.b
      rw [J.eq f hf q]
    · exact h1 x y ((J.keys x).mpr ((mem x).mp hx)) ((J.keys y).mpr ((mem y).mp hy)) (inj x hx y hy e) cx cy
    · exact h2 f hf q (inj _ ((mem _).mpr ⟨f, hf, .inl rfl⟩) _ ((mem _).mpr ⟨f, hf, .inr rfl⟩) e)
end K85

set_option maxRecDepth 100000
set_option maxHeartbeats 1000000
namespace L2
theorem Room.units2 {k : Nat} {A : PySem.Around} (r : Room k A) : A.units + 2 < PySem.cLine := by have := r.un; omega
end L2
namespace K85
open PySem L2 DL
/-! ### terms at their addresses, the dict of parents -/
def ktup (t : T) : List Key := [Sum.inr t.1, Sum.inl t.2]
theorem ktup_inj {t u : T} (h : ktup t = ktup u) : t = u := by
  obtain ⟨a, b⟩ := t
  obtain ⟨c, d⟩ := u
  simp [ktup] at h
  exact Prod.ext h.1 h.2
def TmAt (H : Hp) (v : V) (t : T) : Prop := ∃ b, v = .ref b ∧ H b = some (.tup ((ktup t).map kV))
theorem TmAt.mono {H H' : Hp} {v : V} {t : T} (s : Sub H H') (h : TmAt H v t) : TmAt H' v t := let ⟨b, e, h⟩ := h; ⟨b, e, s _ _ h⟩
theorem TmAt.da {K : PySem.W.Frag} {H : Hp} {v : V} {t : T} (h : TmAt H v t) : Da K H v (eT t) := by
  obtain ⟨b, rfl, h⟩ := h
  exact .tup h (.cons (.str _) (.cons (.int _) .nil))
theorem TmAt.of {K : PySem.W.Frag} {H : Hp} {v : V} {t : T} (h : Da K H v (eT t)) : TmAt H v t := by
  cases h with
  | tup h hs =>
    cases hs with
    | cons h1 hs =>
      cases hs with
      | cons h2 hs =>
        cases hs
        cases h1
        cases h2
        exact ⟨_, rfl, h⟩
inductive KR (H : Hp) : List (List Key × V) → Ov → Prop
  | nil : KR H [] []
  | cons {v : V} {t p : T} {kvs : List (List Key × V)} {ov : Ov} : TmAt H v p → KR H kvs ov → KR H ((ktup t, v) :: kvs) ((t, p) :: ov)
theorem KR.mono {H H' : Hp} (s : Sub H H') {kvs : List (List Key × V)} {ov : Ov} (h : KR H kvs ov) : KR H' kvs ov := by
  induction h with
  | nil => exact .nil
  | cons h _ ih => exact .cons (h.mono s) ih
theorem KR.len {H : Hp} {kvs : List (List Key × V)} {ov : Ov} (h : KR H kvs ov) : kvs.length = ov.length := by
  induction h with
  | nil => rfl
  | cons h _ ih => simp [ih]
theorem KR.none {H : Hp} {kvs : List (List Key × V)} {ov : Ov} (h : KR H kvs ov) (t : T) (e : lookT ov t = none) : valV kvs (ktup t) = none := by
  induction h with
  | nil => rfl
  | @cons v u p kvs ov h _ ih =>
    unfold lookT at e
    by_cases q : u = t
    · simp [q] at e
    · rw [valV_neg (fun z => q (ktup_inj z))]
      refine ih ?_
      rw [List.find?_cons_of_neg (by simpa using q)] at e
      exact e
theorem KR.some {H : Hp} {kvs : List (List Key × V)} {ov : Ov} (h : KR H kvs ov) (t : T) {p : T} (e : lookT ov t = some p) : ∃ v, valV kvs (ktup t) = some v ∧ TmAt H v p := by
  induction h with
  | nil => cases e
  | @cons v u p' kvs ov h _ ih =>
    unfold lookT at e
    by_cases q : u = t
    · subst q
      simp at e
      subst e
      exact ⟨v, valV_pos rfl, h⟩
    · rw [valV_neg (fun z => q (ktup_inj z))]
      refine ih ?_
      rw [List.find?_cons_of_neg (by simpa using q)] at e
      exact e
theorem KR.any {H : Hp} {kvs : List (List Key × V)} {ov : Ov} (h : KR H kvs ov) (t : T) : (kvs.any fun kv => decide (kv.1 = ktup t)) = ov.any fun e => decide (e.1 = t) := by
  induction h with
  | nil => rfl
  | @cons v u p kvs ov h _ ih =>
    rw [List.any_cons, List.any_cons, ih]
    congr 1
    by_cases q : u = t
    · simp [q]
    · have : ¬ ktup u = ktup t := fun z => q (ktup_inj z)
      simp [q, this]
theorem KR.app {H : Hp} {kvs kvs' : List (List Key × V)} {ov ov' : Ov} (h : KR H kvs ov) (h' : KR H kvs' ov') : KR H (kvs ++ kvs') (ov ++ ov') := by
  induction h with
  | nil => exact h'
  | cons h _ ih => exact .cons h ih
theorem KR.put {H : Hp} {kvs : List (List Key × V)} {ov : Ov} (h : KR H kvs ov) (t u : T) {v : V} (hv : TmAt H v u) : KR H (putK kvs (ktup t) v) (putT ov t u) := by
  unfold putK putT
  rw [h.any t]
  by_cases q : (ov.any fun e => decide (e.1 = t)) = true
  · rw [if_pos q, if_pos q]
    clear q
    induction h with
    | nil => exact .nil
    | @cons w x p kvs ov h hs ih =>
      rw [List.map_cons, List.map_cons]
      by_cases z : x = t
      · subst z
        simp only [if_true]
        exact .cons hv ih
      · rw [if_neg (fun y => z (ktup_inj y)), if_neg z]
        exact .cons h ih
  · rw [if_neg q, if_neg q]
    exact h.app (.cons hv .nil)
/-! ### comparing terms -/
def rNeT : R2 := fun x y H Q => ∃ t u, TmAt H x t ∧ TmAt H y u ∧ Q (.bl (!decide (t = u))) H
theorem o_neT {X : Cx} (hu : X.A.units + 64 < cLine) : OpR X (compareOp .NotEq) rNeT := by
  intro pins s σ H x y v u Q I rx ry ⟨a, b, ha, hb, q⟩
  have hx := ha.da (K := X.K)
  have hy := hb.da (K := X.K)
  obtain ⟨as, r1⟩ := Dp.reads I _ x v hx.dp rx
  obtain ⟨bs, r2⟩ := Dp.reads I _ y u hy.dp ry
  refine SeqAt.ne_plain r1 r2 hx.plain hy.plain (by simp [eT, PyData.depth, PyData.depthAll]; omega) ⟨.bl _, H, I, rfl, ?_⟩
  rw [eT_eqv]
  exact q
/-! ### the class as the head tells it -/
structure CLC (K : PySem.W.Frag) (C : Addr) : Prop where
  cls : Cls K C
  facts : NoAttr K C "facts"
  over : NoAttr K C "over"
/-- top: the term's top -/
def spTop (K : PySem.W.Frag) (C : Addr) : Sp := fun vs H Q _ => ∃ (x d dx : Addr) (fl : List (Str × V)) (kvs : List (List Key × V)) (ov : Ov) (ρ : T → T) (v : V) (t : T) (G : Hp), vs = [.ref x, v] ∧ Sub G H ∧ H x = some (.ins C dx fl) ∧ fl.lookup ("over" : Str) = some (.ref d) ∧
  Rd H d (.dT kvs) ∧ KR G kvs ov ∧ Roots ov ρ ∧ TmAt G v t ∧ ∀ u, TmAt G u (ρ t) → Q u H
section
variable {P : Program} {w : World} {K : PySem.W.Frag} {mg : Str → Option Value} {base : Heap}
theorem sc_Classes_top : FnScope ["self", "term", "here"] ["self", "term"] (defScope s_Classes_top) := ⟨rfl, rfl, rfl, by decide +kernel, rfl, by decide +kernel, by decide +kernel⟩
theorem bn_Classes_top {K : PySem.W.Frag} {f : Addr} {fd : FuncData} (F : FnP K "top" "Classes.top" s_Classes_top [] f fd) : Binds K fd ["self", "term"] [] := FunD.bindsN F fun _ _ _ _ _ _ us hl => match us, hl with | [_, _], _ => rfl
theorem DGetT {H : Hp} {a b : Addr} {kvs : List (List Key × V)} {t : T} (e : Rd H a (.dT kvs)) (eb : H b = some (.tup ((ktup t).map kV))) : DGet H a (.ref b) (valV kvs (ktup t)) := .inr ⟨kvs, ktup t, b, e, rfl, eb, rfl⟩
theorem ok_Classes_top {f C : Addr} {fd : FuncData} (M : CLC K C) (F : FnP K "top" "Classes.top" s_Classes_top [] f fd) : FnOk P w K mg base CX0 1 f fd ["self", "term"] (spTop K C) := by
  refine F.ok sc_Classes_top (fun vs H Q E h => ?_) (fun cdv A outer s H vs Q E hr h => ?_)
  · obtain ⟨x, d, dx, fl, kvs, ov, ρ, v, t, G, rfl, _⟩ := h
    rfl
  · obtain ⟨x, d, dx, fl, kvs, ov, ρ, v, t, G, rfl, hG, hx, hl, hd, hk, hρ, hv, hQ⟩ := h
    have hu := hr.units
    have hu1 := hr.units1
    refine ⟨_, PSs.nox (pss_cons (ps_set (i := 2) sc_Classes_top.nd rfl (Or.inl rfl) (pv 1))
      (pss_cons (ps_while PassesOwn.never (pt_cmpR (o_neT hu) (pe_dget2 hu1 (pe_fld (pv 0) rfl) (pv 2) (pv 2) ⟨rfl, rfl, rfl, rfl⟩) (pv 2) (nomark _))
        (pss_one (ps_set (i := 2) sc_Classes_top.nd rfl (Or.inl rfl) (pe_dget hu1 (pe_fld (pv 0) rfl) (pv 2) (fun _ _ => rfl)))))
      (pss_one (ps_ret (pv 2))))), ?_⟩
    obtain ⟨n0, up0⟩ := hρ t
    refine ⟨_, rfl, fun n σ H' => H' = H ∧ ∃ (b : Addr) (t' : T), σ = [some (.ref x), some v, some (.ref b)] ∧ G b = some (.tup ((ktup t').map kV)) ∧ Up ov n t' (ρ t), ?_, ?_⟩
    · obtain ⟨b, rfl, hb⟩ := hv
      exact ⟨n0, rfl, b, t, rfl, hb, up0⟩
    · rintro n σ H' ⟨rfl, b, t', rfl, hb, up⟩
      refine ⟨_, rfl, x, C, dx, fl, _, rfl, hx, M.cls, M.over, hl, d, rfl, .inr ⟨kvs, hd⟩, _, rfl, _, rfl, _, DGetT hd (hG _ _ hb), ?_⟩
      cases up with
      | here e =>
        have hz : TmAt G ((valV kvs (ktup (ρ t))).getD (.ref b)) (ρ t) := by
          rcases e with e | e
          · rw [hk.none _ e]; exact ⟨b, rfl, hb⟩
          · obtain ⟨u, e2, hu2⟩ := hk.some _ e
            rw [e2]; exact hu2
        refine ⟨_, rfl, _, _, hz.mono hG, ⟨b, rfl, hG _ _ hb⟩, ?_⟩
        have ef : (!decide (ρ t = ρ t)) = false := by simp
        rw [ef]
        refine ⟨_, rfl, ?_⟩
        refine iteF ?_
        exact ⟨_, rfl, hQ _ ⟨b, rfl, hb⟩⟩
      | @step n _ p _ e ne up =>
        obtain ⟨u, e2, hu2⟩ := hk.some _ e
        rw [e2]
        refine ⟨_, rfl, _, _, hu2.mono hG, ⟨b, rfl, hG _ _ hb⟩, ?_⟩
        have ef : (!decide (p = t')) = true := by simp [ne]
        rw [ef]
        refine ⟨_, rfl, ?_⟩
        refine iteT ?_
        obtain ⟨b', rfl, hb'⟩ := hu2
        refine ⟨fun σ' H'' => H'' = H' ∧ ∃ (b : Addr) (t' : T), σ' = [some (.ref x), some v, some (.ref b)] ∧ G b = some (.tup ((ktup t').map kV)) ∧ Up ov n t' (ρ t), fun σ' H'' h => ⟨n, Nat.lt_succ_self n, h⟩, ?_⟩
        refine ⟨_, rfl, x, C, dx, fl, _, rfl, hx, M.cls, M.over, hl, _, rfl, d, .ref b', rfl, ?_, ?_⟩
        · have := DGetT hd (hG _ _ hb)
          rw [e2] at this
          exact this
        · exact ⟨rfl, b', p, rfl, hb', up⟩
end
end K85

set_option maxRecDepth 100000
set_option maxHeartbeats 1000000
namespace K85
open PySem L2 DL
/-! ### Classes.__init__ -/
def flC (v : V) (d : Addr) : List (Str × V) := putF "over" (.ref d) (putF "facts" v [])
theorem nfo : ¬ (("facts" : Str) = "over") := by decide +kernel
theorem flC_over (v : V) (d : Addr) : (flC v d).lookup ("over" : Str) = some (.ref d) := by
  unfold flC
  rw [lookup_putF, if_pos rfl]
theorem flC_facts (v : V) (d : Addr) : (flC v d).lookup ("facts" : Str) = some v := by
  unfold flC
  rw [lookup_putF, if_neg nfo, lookup_putF, if_pos rfl]
theorem flC_no (v : V) (d : Addr) {m : Str} (h1 : ¬ m = "over") (h2 : ¬ m = "facts") : (flC v d).lookup m = none := by
  unfold flC
  rw [lookup_putF, if_neg h1, lookup_putF, if_neg h2]
  rfl
theorem TmAt.upd {H : Hp} {v : V} {t : T} {d : Addr} {o u : HO} (h : TmAt H v t) (hd : H d = some u) (hu : ∀ xs, u ≠ .tup xs) : TmAt (upd H d o) v t := by
  obtain ⟨b, rfl, h⟩ := h
  refine ⟨b, rfl, ?_⟩
  rw [upd_ne]
  · exact h
  · rintro rfl
    rw [hd] at h
    injection h with h
    exact hu _ h
theorem KR.upd {H : Hp} {kvs : List (List Key × V)} {ov : Ov} {d : Addr} {o u : HO} (h : KR H kvs ov) (hd : H d = Option.some u) (hu : ∀ xs, u ≠ .tup xs) : KR (L2.upd H d o) kvs ov := by
  induction h with
  | nil => exact .nil
  | cons h _ ih => exact .cons (h.upd hd hu) ih
/-- setdefault of a term by itself -/
theorem setd_step {H : Hp} {d : Addr} {kvs : List (List Key × V)} {ov : Ov} {t : T} {b : Addr} {Q : V → Hp → Prop} (hd : H d = some (.dT kvs)) (hk : KR H kvs ov) (hb : H b = some (.tup ((ktup t).map kV))) (hl : kvs.length < sizeLine)
    (h : ∀ kvs' H' w, H' d = some (.dT kvs') → KR H' kvs' (setd ov t) → kvs'.length ≤ kvs.length + 1 → (∀ c, c ≠ d → H' c = H c) → Q w H') :
    ∃ (kvs : List (List Key × V)) (k : List Key) (b' : Addr), H d = some (.dT kvs) ∧ V.ref b = .ref b' ∧ H b' = some (.tup (k.map kV)) ∧ kvs.length < sizeLine ∧
      (∀ v, valV kvs k = some v → Q v H) ∧ (valV kvs k = none → Q (.ref b) (L2.upd H d (.dT (putK kvs k (.ref b))))) := by
  refine ⟨kvs, ktup t, b, hd, rfl, hb, hl, fun v hv => ?_, fun hv => ?_⟩
  · refine h kvs H v hd ?_ (Nat.le_succ _) fun _ _ => rfl
    unfold setd
    cases e : lookT ov t with
    | some p => exact hk
    | none => rw [hk.none t e] at hv; cases hv
  · refine h _ _ _ upd_same ?_ (length_putK kvs _ _) fun c hc => upd_ne hc
    unfold setd
    cases e : lookT ov t with
    | some p => obtain ⟨v, e2, _⟩ := hk.some t e; rw [e2] at hv; cases hv
    | none => exact (hk.put t t ⟨b, rfl, hb⟩).upd hd (fun xs z => by cases z)
def spInitC (K : PySem.W.Frag) (C : Addr) : Sp := fun vs H Q _ => ∃ (x dx : Addr) (v : V) (fs : List Fa), vs = [.ref x, v] ∧ H x = some (.ins C dx []) ∧ Da K H v (eFas fs) ∧ fs.length ≤ 1000 ∧
  ∀ d kvs ov ρ H', H d = none → H' x = some (.ins C dx (flC v d)) → H' d = some (.dT kvs) → KR H' kvs ov → Jn fs ov ρ → kvs.length ≤ 2000 → (∀ b o, H b = some o → b ≠ x → H' b = some o) → Q .non H'
theorem fa_at {K : PySem.W.Frag} {H : Hp} {v : V} {f : Fa} (h : Da K H v (eFa f)) : ∃ a v0 v1 v2, v = .ref a ∧ H a = some (.tup [v0, v1, v2]) ∧ v0 = .str (if f.eq then "=" else "!") ∧ TmAt H v1 f.a ∧ TmAt H v2 f.b := by
  cases h with
  | tup h hs =>
    cases hs with
    | cons h0 hs =>
      cases hs with
      | cons h1 hs =>
        cases hs with
        | cons h2 hs =>
          cases hs
          cases h0
          exact ⟨_, _, _, _, rfl, h, rfl, .of h1, .of h2⟩
section
variable {P : Program} {w : World} {K : PySem.W.Frag} {mg : Str → Option Value} {base : Heap}
theorem sc_Classes_init : FnScope ["self", "facts", "sign", "one", "other"] ["self", "facts"] (defScope s_Classes___init__) := ⟨rfl, rfl, rfl, by decide +kernel, rfl, by decide +kernel, by decide +kernel⟩
theorem bn_Classes_init {K : PySem.W.Frag} {f : Addr} {fd : FuncData} (F : FnP K "__init__" "Classes.__init__" s_Classes___init__ [] f fd) : Binds K fd ["self", "facts"] [] := FunD.bindsN F fun _ _ _ _ _ _ us hl => match us, hl with | [_, _], _ => rfl
theorem ok_Classes_init {f C fT : Addr} {fd fdT : FuncData} (M : CLC K C) (F : FnP K "__init__" "Classes.__init__" s_Classes___init__ [] f fd) (FT : FnP K "top" "Classes.top" s_Classes_top [] fT fdT) (mT : Meth K C "top" fT) : FnOk P w K mg base CX0 2 f fd ["self", "facts"] (spInitC K C) := by
  have GT : FnOk P w K mg base CX0 1 fT fdT ["self", "term"] (spTop K C) := ok_Classes_top M FT
  have bT := bn_Classes_top FT
  refine F.ok sc_Classes_init (fun vs H Q E h => ?_) (fun cdv A outer s H vs Q E hr h => ?_)
  · obtain ⟨x, dx, v, fs, rfl, _⟩ := h
    rfl
  · obtain ⟨x, dx, v, fs, rfl, hx, hf, hl, hQ⟩ := h
    have hu1 := hr.units1
    have hu2 := hr.units2
    have nd := sc_Classes_init.nd
    refine ⟨_, PSs.nox (pss_cons (ps_fld (pv 0) (pv 1) rfl)
      (pss_cons (ps_fld (pv 0) pe_dnewT rfl)
      (pss_one (ps_for PassesOwn.never rfl (pi_tup (pv 1)) (pg_tup rfl (pgs_cons (pg_name (i := 2) nd rfl (Or.inl rfl)) (pgs_cons (pg_name (i := 3) nd rfl (Or.inl rfl)) (pgs_cons (pg_name (i := 4) nd rfl (Or.inl rfl)) pgs_nil))))
        (pss_cons (ps_expr (pe_dsetdT hu2 (pe_fld (pv 0) rfl) (pv 3) (pv 3) ⟨rfl, rfl, rfl, rfl⟩))
        (pss_cons (ps_expr (pe_dsetdT hu2 (pe_fld (pv 0) rfl) (pv 4) (pv 4) ⟨rfl, rfl, rfl, rfl⟩))
        (pss_one (ps_if (pt_cmpR op_eq (pv 2) pe_str (nomark _)) (pss_one (ps_dput hu1 (pe_fld (pv 0) rfl) (pe_meth (pv 0) M.cls mT GT hr bT .nil pass0 (pa_cons (pv 3) pa_nil)) (pe_meth (pv 0) M.cls mT GT hr bT .nil pass0 (pa_cons (pv 4) pa_nil)) rfl)) pss_nil)))))))), ?_⟩
    refine ⟨_, rfl, _, rfl, x, C, dx, [], rfl, hx, M.cls, M.facts, (by show 0 < 1000; decide), ?_⟩
    intro d hd
    have nxd : x ≠ d := by
      rintro rfl
      rw [upd_same] at hd; cases hd
    have hd0 : H d = none := by rw [upd_ne nxd.symm] at hd; exact hd
    refine ⟨_, rfl, x, C, dx, _, rfl, (by rw [upd_ne nxd, upd_same]), M.cls, M.over, (by show 1 < 1000; decide), ?_⟩
    cases hf with
    | @tup a xs ds ha hall =>
    have nax : a ≠ x := by rintro rfl; rw [hx] at ha; cases ha
    have nad : a ≠ d := ne_of_none ha hd0
    have hlen : xs.length = fs.length := by have := hall.length; simpa using this
    have hkeep : ∀ H' : Hp, (∀ b o, H b = some o → b ≠ x → H' b = some o) → SqT K H' a xs := fun H' hk => .inl (.inl (hk a _ ha nax))
    have first : ∀ b o, H b = some o → b ≠ x → (upd (upd (upd H x (.ins C dx (putF "facts" (.ref a) []))) d (.dT [])) x (.ins C dx (flC (.ref a) d))) b = some o := fun b o e n => by
      rw [upd_ne n, upd_ne (ne_of_none e hd0), upd_ne n]; exact e
    refine ⟨_, rfl, a, rfl, ⟨xs, hkeep _ first⟩, for_it (walk_tup (K := K) (a := a) (xs := xs))
      (fun i σ H' => ∃ (kvs : List (List Key × V)) (ov : Ov) (ρ : T → T) (s2 s3 s4 : Option V), σ = [some (.ref x), some (.ref a), s2, s3, s4] ∧ H' x = some (.ins C dx (flC (.ref a) d)) ∧ H' d = some (.dT kvs) ∧ KR H' kvs ov ∧ Jn (fs.take i) ov ρ ∧ kvs.length ≤ 2 * i ∧ (∀ b o, H b = some o → b ≠ x → H' b = some o))
      ⟨[], [], id, none, none, none, rfl, upd_same, by rw [upd_ne nxd.symm, upd_same], .nil, by rw [List.take_zero]; exact Jn.nil, Nat.zero_le _, first⟩
      (fun i σ H' _ ⟨_, _, _, _, _, _, _, _, _, _, _, _, k⟩ => hkeep _ k) ?_ ?_⟩
    · rintro i y σ H' H'' hi ⟨kvs, ov, ρ, s2, s3, s4, rfl, hx', hd', hk, J, hn, keep⟩ ⟨rfl, hy⟩
      have hi' : i < fs.length := by omega
      obtain ⟨dy, e1, hdy⟩ := hall.getV hy
      rw [List.getElem?_map, List.getElem?_eq_getElem hi'] at e1
      cases e1
      obtain ⟨t, v0, v1, v2, rfl, ht, rfl, hv1, hv2⟩ := fa_at hdy
      have ntx : t ≠ x := by rintro rfl; rw [hx] at ht; cases ht
      have tm : ∀ u z, TmAt H u z → TmAt H'' u z := fun u z ⟨b, e, hb⟩ => ⟨b, e, keep b _ hb (by rintro rfl; rw [hx] at hb; cases hb)⟩
      obtain ⟨b1, rfl, hb1⟩ := tm _ _ hv1
      obtain ⟨b2, rfl, hb2⟩ := tm _ _ hv2
      have nb1 : b1 ≠ d := by rintro rfl; rw [hd'] at hb1; cases hb1
      have nb2 : b2 ≠ d := by rintro rfl; rw [hd'] at hb2; cases hb2
      have hsz : sizeLine = 16777216 := sizeLine_eq
      have etake : fs.take (i + 1) = fs.take i ++ [fs[i]] := by rw [List.take_succ, List.getElem?_eq_getElem hi']; rfl
      refine ⟨t, _, rfl, .inl (.inl (keep t _ ht ntx)), rfl, _, _, rfl, _, _, rfl, _, _, rfl, rfl, ?_⟩
      -- self.over.setdefault(one, one)
      refine ⟨_, rfl, x, C, dx, _, _, rfl, hx', M.cls, M.over, flC_over _ _, d, rfl, .inr ⟨kvs, .inl hd'⟩, _, rfl, _, rfl, ?_⟩
      refine setd_step hd' hk hb1 (by omega) fun kvs1 H1 w1 hd1 hk1 hl1 same1 => ?_
      have hx1 : H1 x = some (.ins C dx (flC (.ref a) d)) := by rw [same1 x nxd]; exact hx'
      -- self.over.setdefault(other, other)
      refine ⟨_, rfl, x, C, dx, _, _, rfl, hx1, M.cls, M.over, flC_over _ _, d, rfl, .inr ⟨kvs1, .inl hd1⟩, _, rfl, _, rfl, ?_⟩
      refine setd_step hd1 hk1 (by rw [same1 b2 nb2]; exact hb2) (by omega) fun kvs2 H2 w2 hd2 hk2 hl2 same2 => ?_
      have hx2 : H2 x = some (.ins C dx (flC (.ref a) d)) := by rw [same2 x nxd]; exact hx1
      have keep2 : ∀ b o, H b = some o → b ≠ x → H2 b = some o := fun b o e n => by
        have nb : b ≠ d := ne_of_none e hd0
        rw [same2 b nb, same1 b nb]; exact keep b o e n
      -- if sign == '='
      refine ⟨_, rfl, rfl, _, rfl, ?_⟩
      have c1 : TmAt H2 (.ref b1) fs[i].a := ⟨b1, rfl, by rw [same2 b1 nb1, same1 b1 nb1]; exact hb1⟩
      have c2 : TmAt H2 (.ref b2) fs[i].b := ⟨b2, rfl, by rw [same2 b2 nb2, same1 b2 nb2]; exact hb2⟩
      cases q : fs[i].eq with
      | false =>
        have ef : decide (V.str (if false = true then "=" else "!") = V.str "=") = false := by decide +kernel
        rw [ef]
        refine iteF ?_
        have J2 := J.add fs[i] q
        rw [← etake] at J2
        exact ⟨kvs2, _, ρ, _, _, _, rfl, hx2, hd2, hk2, J2, by omega, keep2⟩
      | true =>
        have et : decide (V.str (if true = true then "=" else "!") = V.str "=") = true := by decide +kernel
        rw [et]
        refine iteT ?_
        have J1 := J.add { fs[i] with eq := false } rfl
        have J2 := J.join fs[i] q
        rw [← etake] at J2
        refine ⟨_, rfl, x, dx, _, rfl, hx2, flC_no _ _ (by decide +kernel) (by decide +kernel), _, rfl, x, d, dx, _, kvs2, _, ρ, _, _, H2, rfl, Sub.refl _, hx2, flC_over _ _, .inl hd2, hk2, J1.roots, c2, fun u2 hu2 => ?_⟩
        refine ⟨_, rfl, x, C, dx, _, _, rfl, hx2, M.cls, M.over, flC_over _ _, ?_⟩
        refine ⟨_, rfl, x, dx, _, rfl, hx2, flC_no _ _ (by decide +kernel) (by decide +kernel), _, rfl, x, d, dx, _, kvs2, _, ρ, _, _, H2, rfl, Sub.refl _, hx2, flC_over _ _, .inl hd2, hk2, J1.roots, c1, fun u1 hu1 => ?_⟩
        obtain ⟨p1, rfl, hp1⟩ := hu1
        refine ⟨d, _, rfl, DPut.t hd2 hp1 (by omega), ?_⟩
        have hl3 := length_putK kvs2 (ktup (ρ fs[i].a)) u2
        refine ⟨_, _, _, _, _, _, rfl, (by rw [upd_ne nxd]; exact hx2), upd_same, (hk2.put _ _ hu2).upd hd2 (fun xs z => by cases z), J2, ?_, fun b o e n => ?_⟩
        · have hin : (putK kvs2 (ktup (ρ fs[i].a)) u2).length = kvs2.length := by
            have kn : lookT (setd (setd ov fs[i].a) fs[i].b) (ρ fs[i].a) ≠ none := J1.kroot fs[i].a ((J1.keys _).mpr ⟨_, List.mem_append.mpr (.inr (List.mem_singleton.mpr rfl)), .inl rfl⟩)
            have ha := hk2.any (ρ fs[i].a)
            rw [lookT_any] at ha
            have hs : (lookT (setd (setd ov fs[i].a) fs[i].b) (ρ fs[i].a)).isSome = true := by
              cases z : lookT (setd (setd ov fs[i].a) fs[i].b) (ρ fs[i].a) with
              | none => exact absurd z kn
              | some _ => rfl
            rw [hs] at ha
            unfold putK
            rw [if_pos ha, List.length_map]
          rw [hin]
          omega
        · have nb : b ≠ d := ne_of_none e hd0
          rw [upd_ne nb]; exact keep2 b o e n
    · rintro σ H' ⟨kvs, ov, ρ, s2, s3, s4, rfl, hx', hd', hk, J, hn, keep⟩
      refine hQ d kvs ov ρ H' hd0 hx' hd' hk ?_ (by omega) keep
      rw [hlen, List.take_length] at J
      exact J
end
end K85

set_option maxRecDepth 100000
set_option maxHeartbeats 1000000
namespace K85
open PySem L2 DL
/-! ### sorting what is typed -/
theorem srt_map {α : Type} (enc : α → PyData) (dec : PyData → α) (hd : ∀ a, dec (enc a) = a) (l : List α) : ∃ l' : List α, l'.Perm l ∧ srt (l.map enc) = l'.map enc := by
  have pm : (srt (l.map enc)).Perm (l.map enc) := List.mergeSort_perm _ _
  refine ⟨(srt (l.map enc)).map dec, ?_, ?_⟩
  · have := pm.map dec
    have e : (l.map enc).map dec = l := by
      rw [List.map_map]
      have : dec ∘ enc = id := funext hd
      rw [this, List.map_id]
    rw [e] at this
    exact this
  · rw [List.map_map]
    conv => lhs; rw [← List.map_id (srt (l.map enc))]
    refine List.map_congr_left fun d h => ?_
    obtain ⟨a, _, rfl⟩ := List.mem_map.mp (pm.mem_iff.mp h)
    show enc a = enc (dec (enc a))
    rw [hd]
def decS : PyData → Str
  | .str s => s
  | _ => ""
def decT : PyData → T
  | .tuple [a, b] => (decS a, decI b)
  | _ => ("", 0)
theorem decT_eT (t : T) : decT (eT t) = t := rfl
def decL : PyData → List T
  | .tuple ds => ds.map decT
  | _ => []
def eTs (l : List T) : PyData := .tuple (l.map eT)
theorem decL_eTs (l : List T) : decL (eTs l) = l := by
  show (l.map eT).map decT = l
  rw [List.map_map]
  have : decT ∘ eT = id := funext decT_eT
  rw [this, List.map_id]
theorem alikeT1 (a b : T) : PySem.W.alike (eT a) (eT b) = true := by simp [eT, PySem.W.alike, PySem.W.alikeAll]
theorem alike_Ts : ∀ xs ys : List T, PySem.W.alikeAll (xs.map eT) (ys.map eT) = true
  | [], _ => by simp [PySem.W.alikeAll]
  | _ :: _, [] => by simp [PySem.W.alikeAll]
  | x :: xs, y :: ys => by
    show PySem.W.alikeAll (eT x :: xs.map eT) (eT y :: ys.map eT) = true
    rw [PySem.W.alikeAll, alike_Ts xs ys, alikeT1]
    rfl
theorem depth_Ts (l : List T) : (eTs l).depth ≤ 2 := by
  have := depthAll_le (l := l.map eT) (n := 1) fun d hd => by
    obtain ⟨a, _, rfl⟩ := List.mem_map.mp hd
    rw [eT_depth]; exact Nat.le_refl _
  simp only [eTs, PyData.depth]
  omega
theorem sorts_T (l : List T) : PySem.W.AllAlike (l.map eT) ∧ PySem.W.SortableE (l.map eT) ∧ ∀ d ∈ l.map eT, d.depth ≤ 60 := by
  refine ⟨fun d hd d' hd' => ?_, .inl (.inl fun d hd => ?_), fun d hd => ?_⟩
  · obtain ⟨a, _, rfl⟩ := List.mem_map.mp hd
    obtain ⟨b, _, rfl⟩ := List.mem_map.mp hd'
    exact alikeT1 a b
  · obtain ⟨a, _, rfl⟩ := List.mem_map.mp hd
    exact ⟨_, _, rfl⟩
  · obtain ⟨a, _, rfl⟩ := List.mem_map.mp hd
    rw [eT_depth]; omega
theorem sorts_Ts (L : List (List T)) (h : ∀ l ∈ L, l ≠ []) : PySem.W.AllAlike (L.map eTs) ∧ PySem.W.SortableE (L.map eTs) ∧ ∀ d ∈ L.map eTs, d.depth ≤ 60 := by
  refine ⟨fun d hd d' hd' => ?_, .inl (.inl fun d hd => ?_), fun d hd => ?_⟩
  · obtain ⟨a, _, rfl⟩ := List.mem_map.mp hd
    obtain ⟨b, _, rfl⟩ := List.mem_map.mp hd'
    show PySem.W.alikeAll (a.map eT) (b.map eT) = true
    exact alike_Ts a b
  · obtain ⟨a, ha, rfl⟩ := List.mem_map.mp hd
    match a, h a ha with
    | x :: r, _ => exact ⟨_, _, rfl⟩
  · obtain ⟨a, _, rfl⟩ := List.mem_map.mp hd
    have := depth_Ts a
    omega
/-! ### the dict of lots -/
abbrev FL := List (T × Addr × List T)
def kvF (F : FL) : List (List Key × V) := F.map fun e => (ktup e.1, .ref e.2.1)
inductive Tms (H : Hp) : List V → List T → Prop
  | nil : Tms H [] []
  | cons {v : V} {t : T} {vs : List V} {ts : List T} : TmAt H v t → Tms H vs ts → Tms H (v :: vs) (t :: ts)
theorem Tms.snoc {H : Hp} {vs : List V} {ts : List T} {v : V} {t : T} (h : Tms H vs ts) (g : TmAt H v t) : Tms H (vs ++ [v]) (ts ++ [t]) := by
  induction h with
  | nil => exact .cons g .nil
  | cons a _ ih => exact .cons a ih
theorem Tms.upd {H : Hp} {vs : List V} {ts : List T} {d : Addr} {o : HO} (h : Tms H vs ts) (hd : ∀ xs, H d ≠ some (.tup xs)) : Tms (L2.upd H d o) vs ts := by
  induction h with
  | nil => exact .nil
  | cons a _ ih =>
    obtain ⟨b, rfl, hb⟩ := a
    exact .cons ⟨b, rfl, by rw [upd_ne (by rintro rfl; exact hd _ hb)]; exact hb⟩ ih
theorem Tms.len {H : Hp} {vs : List V} {ts : List T} (h : Tms H vs ts) : vs.length = ts.length := by
  induction h with
  | nil => rfl
  | cons _ _ ih => simp [ih]
theorem Tms.da {K : PySem.W.Frag} {H : Hp} {vs : List V} {ts : List T} (h : Tms H vs ts) : DaAll K H vs (ts.map eT) := by
  induction h with
  | nil => exact .nil
  | cons a _ ih => exact .cons a.da ih
theorem Tms.mono {H H' : Hp} {vs : List V} {ts : List T} (s : Sub H H') (h : Tms H vs ts) : Tms H' vs ts := by
  induction h with
  | nil => exact .nil
  | cons a _ ih => exact .cons (a.mono s) ih
structure Fnd (H0 H : Hp) (df : Addr) (F : FL) : Prop where
  dict : H df = some (.dT (kvF F))
  fn : (F.map (·.1)).Nodup
  an : (F.map (·.2.1)).Nodup
  val : ∀ e ∈ F, ∃ vs, H e.2.1 = some (.lst vs) ∧ Tms H vs e.2.2
  new : ∀ e ∈ F, H0 e.2.1 = none
theorem Fnd.newl {H0 H : Hp} {df : Addr} {F : FL} (h : Fnd H0 H df F) {l : Addr} {o : HO} (hl : H l = none) : Fnd H0 (L2.upd H l o) df F := by
  refine ⟨?_, h.fn, h.an, fun e he => ?_, h.new⟩
  · rw [upd_ne (by rintro rfl; rw [h.dict] at hl; cases hl)]; exact h.dict
  · obtain ⟨vs, h1, h2⟩ := h.val e he
    refine ⟨vs, ?_, h2.upd fun xs z => by rw [hl] at z; cases z⟩
    rw [upd_ne (by rintro rfl; rw [h1] at hl; cases hl)]; exact h1
theorem Fnd.addl {H0 H : Hp} {df : Addr} {F : FL} (h : Fnd H0 H df F) {l : Addr} {r : T} (hl : H l = some (.lst [])) (h0 : H0 l = none) (ha : l ∉ F.map (·.2.1)) (hr : r ∉ F.map (·.1)) :
    Fnd H0 (L2.upd H df (.dT (kvF F ++ [(ktup r, .ref l)]))) df (F ++ [(r, l, [])]) := by
  have nd : ∀ a o, H a = some (.lst o) → a ≠ df := fun a o e => by rintro rfl; rw [h.dict] at e; cases e
  refine ⟨?_, ?_, ?_, fun e he => ?_, fun e he => ?_⟩
  · rw [upd_same]; simp [kvF]
  · rw [List.map_append, List.nodup_append]
    exact ⟨h.fn, by simp, fun a ha b hb => by
      have : b = r := by simpa using hb
      subst this
      rintro rfl
      exact hr ha⟩
  · rw [List.map_append, List.nodup_append]
    exact ⟨h.an, by simp, fun a ha' b hb => by
      have : b = l := by simpa using hb
      subst this
      rintro rfl
      exact ha ha'⟩
  · rcases List.mem_append.mp he with he | he
    · obtain ⟨vs, h1, h2⟩ := h.val e he
      refine ⟨vs, ?_, h2.upd fun xs z => by rw [h.dict] at z; cases z⟩
      rw [upd_ne (nd _ _ h1)]; exact h1
    · rw [List.mem_singleton.mp he]
      exact ⟨[], by rw [upd_ne (nd _ _ hl)]; exact hl, .nil⟩
  · rcases List.mem_append.mp he with he | he
    · exact h.new e he
    · rw [List.mem_singleton.mp he]; exact h0
def pushF (F : FL) (r : T) (t : T) : FL := F.map fun e => if e.1 = r then (e.1, e.2.1, e.2.2 ++ [t]) else e
theorem pushF_fst (F : FL) (r t : T) : (pushF F r t).map (·.1) = F.map (·.1) := by
  unfold pushF
  rw [List.map_map]
  refine List.map_congr_left fun e _ => ?_
  show (if e.1 = r then (e.1, e.2.1, e.2.2 ++ [t]) else e).1 = e.1
  split <;> rfl
theorem pushF_adr (F : FL) (r t : T) : (pushF F r t).map (·.2.1) = F.map (·.2.1) := by
  unfold pushF
  rw [List.map_map]
  refine List.map_congr_left fun e _ => ?_
  show (if e.1 = r then (e.1, e.2.1, e.2.2 ++ [t]) else e).2.1 = e.2.1
  split <;> rfl
theorem pushF_kv (F : FL) (r t : T) : kvF (pushF F r t) = kvF F := by
  unfold kvF pushF
  rw [List.map_map]
  refine List.map_congr_left fun e _ => ?_
  show (ktup (if e.1 = r then (e.1, e.2.1, e.2.2 ++ [t]) else e).1, V.ref (if e.1 = r then (e.1, e.2.1, e.2.2 ++ [t]) else e).2.1) = _
  split <;> rfl
theorem inj_nodup {α β : Type} (f : α → β) : ∀ {l : List α}, (l.map f).Nodup → ∀ {a b : α}, a ∈ l → b ∈ l → f a = f b → a = b
  | [], _, _, _, h, _, _ => by cases h
  | x :: l, nd, a, b, ha, hb, e => by
    rw [List.map_cons, List.nodup_cons] at nd
    rcases List.mem_cons.mp ha with rfl | ha2
    · rcases List.mem_cons.mp hb with rfl | hb2
      · rfl
      · exact absurd (show f a ∈ l.map f from List.mem_map.mpr ⟨b, hb2, e.symm⟩) nd.1
    · rcases List.mem_cons.mp hb with rfl | hb2
      · exact absurd (show f b ∈ l.map f from List.mem_map.mpr ⟨a, ha2, e⟩) nd.1
      · exact inj_nodup f nd.2 ha2 hb2 e
theorem Fnd.push {H0 H : Hp} {df : Addr} {F : FL} (h : Fnd H0 H df F) {e0 : T × Addr × List T} (he0 : e0 ∈ F) {vs0 : List V} (hv : H e0.2.1 = some (.lst vs0)) (ht0 : Tms H vs0 e0.2.2) {y : V} {t : T} (hy : TmAt H y t) :
    Fnd H0 (L2.upd H e0.2.1 (.lst (vs0 ++ [y]))) df (pushF F e0.1 t) := by
  refine ⟨?_, by rw [pushF_fst]; exact h.fn, by rw [pushF_adr]; exact h.an, fun e he => ?_, fun e he => ?_⟩
  · rw [pushF_kv, upd_ne (by intro q; rw [← q, h.dict] at hv; cases hv)]; exact h.dict
  · obtain ⟨e', he', rfl⟩ := List.mem_map.mp he
    by_cases q : e'.1 = e0.1
    · have : e' = e0 := inj_nodup (·.1) h.fn he' he0 q
      subst this
      rw [if_pos rfl]
      refine ⟨_, upd_same, ?_⟩
      have := ht0.snoc hy
      exact this.upd fun xs z => by rw [hv] at z; cases z
    · rw [if_neg q]
      obtain ⟨vs, h1, h2⟩ := h.val e' he'
      have ne : e'.2.1 ≠ e0.2.1 := fun z => q (by rw [inj_nodup (·.2.1) h.an he' he0 z])
      exact ⟨vs, by rw [upd_ne ne]; exact h1, h2.upd fun xs z => by rw [hv] at z; cases z⟩
  · obtain ⟨e', he', rfl⟩ := List.mem_map.mp he
    have := h.new e' he'
    split <;> exact this
theorem kvF_some {F : FL} {r : T} {v : V} (h : valV (kvF F) (ktup r) = some v) : ∃ e ∈ F, e.1 = r ∧ v = .ref e.2.1 := by
  induction F with
  | nil => cases h
  | cons e F ih =>
    by_cases q : e.1 = r
    · refine ⟨e, by simp, q, ?_⟩
      have : valV (kvF (e :: F)) (ktup r) = some (.ref e.2.1) := valV_pos (congrArg ktup q)
      rw [this] at h
      exact (Option.some.inj h).symm
    · have : valV (kvF (e :: F)) (ktup r) = valV (kvF F) (ktup r) := valV_neg (fun z => q (ktup_inj z))
      rw [this] at h
      obtain ⟨e', h1, h2⟩ := ih h
      exact ⟨e', by simp [h1], h2⟩
theorem kvF_none {F : FL} {r : T} (h : valV (kvF F) (ktup r) = none) : r ∉ F.map (·.1) := by
  induction F with
  | nil => simp
  | cons e F ih =>
    by_cases q : e.1 = r
    · have : valV (kvF (e :: F)) (ktup r) = some (.ref e.2.1) := valV_pos (congrArg ktup q)
      rw [this] at h; cases h
    · have : valV (kvF (e :: F)) (ktup r) = valV (kvF F) (ktup r) := valV_neg (fun z => q (ktup_inj z))
      rw [this] at h
      have := ih h
      rw [List.map_cons, List.mem_cons]
      rintro (z | z)
      · exact q z.symm
      · exact this z
/-- what stands in it, of the first terms -/
structure Grp (ks : List T) (ρ : T → T) (F : FL) : Prop where
  fn : (F.map (·.1)).Nodup
  lot : ∀ e ∈ F, e.2.2 = ks.filter fun u => decide (ρ u = e.1)
  all : ∀ t ∈ ks, ρ t ∈ F.map (·.1)
  some_ : ∀ e ∈ F, ∃ t ∈ ks, ρ t = e.1
theorem Grp.nil {ρ : T → T} : Grp [] ρ [] := ⟨by simp, fun e he => (by cases he), fun t ht => (by cases ht), fun e he => (by cases he)⟩
theorem Grp.push {ks : List T} {ρ : T → T} {F : FL} (h : Grp ks ρ F) {t : T} (hm : ρ t ∈ F.map (·.1)) : Grp (ks ++ [t]) ρ (pushF F (ρ t) t) := by
  refine ⟨by rw [pushF_fst]; exact h.fn, fun e he => ?_, fun u hu => ?_, fun e he => ?_⟩
  · obtain ⟨e', he', rfl⟩ := List.mem_map.mp he
    by_cases q : e'.1 = ρ t
    · rw [if_pos q]
      show e'.2.2 ++ [t] = _
      rw [List.filter_append, h.lot e' he', List.filter_cons_of_pos (by simpa using q.symm)]
      rfl
    · rw [if_neg q, List.filter_append, List.filter_cons_of_neg (by simpa using fun z : ρ t = e'.1 => q z.symm), h.lot e' he']
      simp
  · rw [pushF_fst]
    rcases List.mem_append.mp hu with hu | hu
    · exact h.all u hu
    · rw [List.mem_singleton.mp hu]; exact hm
  · obtain ⟨e', he', rfl⟩ := List.mem_map.mp he
    obtain ⟨u, hu, e⟩ := h.some_ e' he'
    refine ⟨u, by simp [hu], ?_⟩
    split <;> exact e
theorem Grp.add {ks : List T} {ρ : T → T} {F : FL} (h : Grp ks ρ F) {t : T} {l : Addr} (hm : ρ t ∉ F.map (·.1)) : Grp (ks ++ [t]) ρ (pushF (F ++ [(ρ t, l, [])]) (ρ t) t) := by
  have e0 : ks.filter (fun u => decide (ρ u = ρ t)) = [] := by
    rw [List.filter_eq_nil_iff]
    intro u hu z
    exact hm (by have := h.all u hu; rw [of_decide_eq_true z] at this; exact this)
  refine ⟨?_, fun e he => ?_, fun u hu => ?_, fun e he => ?_⟩
  · rw [pushF_fst, List.map_append, List.nodup_append]
    exact ⟨h.fn, by simp, fun a ha b hb => by
      have : b = ρ t := by simpa using hb
      subst this
      rintro rfl
      exact hm ha⟩
  · obtain ⟨e', he', rfl⟩ := List.mem_map.mp he
    rcases List.mem_append.mp he' with he' | he'
    · have q : ¬ e'.1 = ρ t := fun z => hm (z ▸ List.mem_map.mpr ⟨e', he', rfl⟩)
      rw [if_neg q, List.filter_append, List.filter_cons_of_neg (by simpa using fun z : ρ t = e'.1 => q z.symm), h.lot e' he']
      simp
    · rw [List.mem_singleton.mp he', if_pos rfl]
      show ([] : List T) ++ [t] = _
      rw [List.filter_append]
      show _ = (ks.filter fun u => decide (ρ u = ρ t)) ++ [t].filter fun u => decide (ρ u = ρ t)
      rw [e0]
      simp
  · rw [pushF_fst, List.map_append]
    rcases List.mem_append.mp hu with hu | hu
    · exact List.mem_append.mpr (.inl (h.all u hu))
    · rw [List.mem_singleton.mp hu]; simp
  · obtain ⟨e', he', rfl⟩ := List.mem_map.mp he
    rcases List.mem_append.mp he' with he' | he'
    · obtain ⟨u, hu, e⟩ := h.some_ e' he'
      refine ⟨u, by simp [hu], ?_⟩
      split <;> exact e
    · rw [List.mem_singleton.mp he', if_pos rfl]
      exact ⟨t, by simp, rfl⟩
end K85

set_option maxRecDepth 100000
set_option maxHeartbeats 2000000
namespace K85
open PySem L2 DL
/-! ### readings that choose what is frozen -/
theorem crEx {X : Cx} {f : Value} {g : FB} (h : ∀ B0 H0 : Hp, BltD X ⟨Res.none, B0, H0⟩ f g) : CallR X f (fun vs H Q => ∃ B0 H0 : Hp, rB X.K ⟨Res.none, B0, H0⟩ g vs H Q) := by
  intro pins s σ H vs us Q I r ⟨B0, H0, q⟩
  exact h B0 H0 pins s σ H vs us Q I r q
theorem peEx {X : Cx} {e : Expr} (K : PySem.W.Frag) (w : EW) (hK : X.K = K) (h : ∀ B0 H0 : Hp, DE X ⟨Res.none, B0, H0⟩ e w) : PE X e (fun σ H Q => ∃ B0 H0 : Hp, tD K ⟨Res.none, B0, H0⟩ w σ H Q) := by
  subst hK
  exact ⟨fun pins s σ H Q I ⟨B0, H0, q⟩ => (h B0 H0).pe.run pins s σ H Q I q⟩
def hide (H : Hp) (d : Addr) : Hp := fun a => if a = d then none else H a
theorem hide_sub (H : Hp) (d : Addr) : Sub (hide H d) H := fun a o h => by
  unfold hide at h
  split at h
  · cases h
  · exact h
theorem hide_at (H : Hp) (d : Addr) : hide H d d = none := if_pos rfl
theorem hide_ne {H : Hp} {d a : Addr} (h : a ≠ d) : hide H d a = H a := if_neg h
theorem wf_none {B H : Hp} (s : Sub B H) : Wf Res.none B H := ⟨s, trivial, fun a h => h.elim, fun a h => h.elim⟩
theorem sub_hide {B H : Hp} {d : Addr} (s : Sub B H) (h : B d = none) : Sub B (hide H d) := fun a o e => by
  rw [hide_ne (by rintro rfl; rw [h] at e; cases e)]
  exact s a o e
structure LotsOk (ks : List T) (ρ : T → T) (L : List (List T)) : Prop where
  len : L.length ≤ 2000
  lot : ∀ l ∈ L, ∃ t ∈ ks, l.Perm (ks.filter fun u => decide (ρ u = ρ t))
  all : ∀ t ∈ ks, ∃ l ∈ L, l.Perm (ks.filter fun u => decide (ρ u = ρ t))
def spLots (K : PySem.W.Frag) (C : Addr) : Sp := fun vs H Q _ => ∃ (x d dx : Addr) (fl : List (Str × V)) (kvs : List (List Key × V)) (ov : Ov) (ρ : T → T), vs = [.ref x] ∧ H x = some (.ins C dx fl) ∧ fl.lookup ("over" : Str) = some (.ref d) ∧ fl.lookup ("top" : Str) = none ∧
  H d = some (.dT kvs) ∧ KR H kvs ov ∧ Roots ov ρ ∧ (ov.map (·.1)).Nodup ∧ kvs.length ≤ 2000 ∧
  ∀ v H' L, Sub H H' → Da K H' v (.list (L.map eTs)) → LotsOk (ov.map (·.1)) ρ L → Q v H'
theorem walk_valsT {d : Addr} {o : Obj} {kvs : List (List Key × V)} : Walk (ItdT d o kvs) kvs.length (fun H => H d = some (.frz o (.dT kvs))) (fun i H x H' => H' = H ∧ ∃ k, kvs[i]? = some (k, x)) :=
  ⟨fun _ _ hi q => ⟨q, hi⟩, fun _ q => ⟨q, Nat.le_refl _⟩, fun _ _ _ _ _ _ y => y⟩
theorem KR.at_ {H : Hp} {kvs : List (List Key × V)} {ov : Ov} (h : KR H kvs ov) {i : Nat} {k : List Key} {v : V} (e : kvs[i]? = Option.some (k, v)) : ∃ t p, ov[i]? = Option.some (t, p) ∧ k = ktup t := by
  induction h generalizing i with
  | nil => simp at e
  | @cons w t p kvs ov h _ ih =>
    cases i with
    | zero =>
      simp at e
      exact ⟨t, p, rfl, e.1.symm⟩
    | succ i => exact ih (by simpa using e)
theorem Tms.hide {H : Hp} {vs : List V} {ts : List T} {d : Addr} (h : Tms H vs ts) (hd : ∀ xs, H d ≠ some (.tup xs)) : Tms (K85.hide H d) vs ts := by
  induction h with
  | nil => exact .nil
  | cons a _ ih =>
    obtain ⟨b, rfl, hb⟩ := a
    exact .cons ⟨b, rfl, by rw [hide_ne (by rintro rfl; exact hd _ hb)]; exact hb⟩ ih
def srtT (l : List T) : List T := (srt (l.map eT)).map decT
theorem srtT_eq (l : List T) : srt (l.map eT) = (srtT l).map eT ∧ (srtT l).Perm l := by
  obtain ⟨l', pm, e⟩ := srt_map eT decT decT_eT l
  have : srtT l = l' := by
    unfold srtT
    rw [e, List.map_map]
    have : decT ∘ eT = id := funext decT_eT
    rw [this, List.map_id]
  rw [this]
  exact ⟨e, pm⟩
def w_tupS : EW := (wBlt (one tupF) [(wBlt (one sortedF) [(wVar 3)])])
section
variable {P : Program} {w : World} {K : PySem.W.Frag} {mg : Str → Option Value} {base : Heap}
theorem sc_Classes_lots : FnScope ["self", "found", "term", "lot"] ["self"] (defScope s_Classes_lots) := ⟨rfl, rfl, rfl, by decide +kernel, rfl, by decide +kernel, by decide +kernel⟩
theorem bn_Classes_lots {K : PySem.W.Frag} {f : Addr} {fd : FuncData} (F : FnP K "lots" "Classes.lots" s_Classes_lots [] f fd) : Binds K fd ["self"] [] := FunD.bindsN F fun _ _ _ _ _ _ us hl => match us, hl with | [_], _ => rfl
theorem ok_Classes_lots {f C fT : Addr} {fd fdT : FuncData} (M : CLC K C) (Tx : Txt mg) (F : FnP K "lots" "Classes.lots" s_Classes_lots [] f fd) (FT : FnP K "top" "Classes.top" s_Classes_top [] fT fdT) (mT : Meth K C "top" fT) : FnOk P w K mg base CX0 2 f fd ["self"] (spLots K C) := by
  have GT : FnOk P w K mg base CX0 1 fT fdT ["self", "term"] (spTop K C) := ok_Classes_top M FT
  have bT := bn_Classes_top FT
  refine F.ok sc_Classes_lots (fun vs H Q E h => ?_) (fun cdv A outer s H vs Q E hr h => ?_)
  · obtain ⟨x, d, dx, fl, kvs, ov, ρ, rfl, _⟩ := h
    rfl
  · obtain ⟨x, d, dx, fl, kvs, ov, ρ, rfl, hx, hlo, hlt, hd, hk, hρ, hnd, hlen, hQ⟩ := h
    have hu := hr.units
    have hu1 := hr.units1
    have hu2 := hr.units2
    have nd := sc_Classes_lots.nd
    refine ⟨_, PSs.nox (pss_cons (ps_set (i := 1) nd rfl (Or.inl rfl) pe_dnewT)
      (pss_cons (ps_lock (ps_for PassesOwn.never rfl (pi_keys (pe_fld (pv 0) rfl)) (pg_name (i := 2) nd rfl (Or.inl rfl))
        (pss_one (ps_expr (pe_bm PySem.F.plainAttrs_list PySem.F.slot_list_append PySem.F.type_list_append mt_append (pe_dsetdT hu2 (pv 1) (pe_meth (pv 0) M.cls mT GT hr bT .nil pass0 (pa_cons (pv 2) pa_nil)) (pe_lst pa_nil) ⟨rfl, rfl, rfl, rfl⟩) (pa_cons (pv 2) pa_nil))))))
      (pss_one (ps_ret (pe_callB (crEx fun _ _ => b_sorted hu) rfl Tx.sorted (by decide +kernel) (pa_cons (pe_lock (pe_lc (own := [("lot", 3)]) (g := gName 3) (tt := tYes) rfl nd (pi_valuesT (pv 1)) (blkOk_by (N := ["self", "found", "term", "lot"]) (sc := defScope s_Classes_lots) (by decide +kernel)) (fun _ _ _ _ _ => pg_name (i := 3) nd rfl (Or.inl rfl)) (fun _ _ _ _ _ => pts_nil)
        (fun _ _ _ _ _ => peEx K w_tupS rfl fun _ _ => (de_ty b_tuple (mono_one m_tup) rfl Tx.tuple (by decide +kernel) (da_cons (de_blt (b_sorted hu) (mono_one m_sorted) rfl Tx.sorted (by decide +kernel) (da_cons (de_var 3) da_nil)) da_nil))))) pa_nil)))))), ?_⟩
    intro df hdf
    have ndf : d ≠ df := ne_of_none hd hdf
    have nxf : x ≠ df := ne_of_none hx hdf
    have nxd : x ≠ d := ne_of hx hd (by intro z; cases z)
    refine ⟨d, .dT kvs, by rw [upd_ne ndf]; exact hd, trivial, fun od => ?_⟩
    refine ⟨_, rfl, x, C, dx, fl, _, rfl, by rw [upd_ne nxd, upd_ne nxf]; exact hx, M.cls, M.over, hlo, d, od, rfl, .inr ⟨kvs, upd_same, ?_⟩⟩
    have hsz : sizeLine = 16777216 := sizeLine_eq
    have base0 : ∀ b o, H b = some o → b ≠ d → (upd (upd H df (.dT [])) d (.frz od (.dT kvs))) b = some o := fun b o e n => by
      rw [upd_ne n, upd_ne (ne_of_none e hdf)]; exact e
    refine for_it (walk_keysT (d := d) (o := od) (kvs := kvs)) (fun i σ H' => ∃ (F : FL) (s2 s3 : Option V), σ = [some (.ref x), some (.ref df), s2, s3] ∧ H' x = some (.ins C dx fl) ∧ H' d = some (.frz od (.dT kvs)) ∧ (∀ b o, H b = some o → b ≠ d → H' b = some o) ∧ Fnd H H' df F ∧ Grp ((ov.map (·.1)).take i) ρ F ∧ F.length ≤ i)
      ⟨[], none, none, rfl, base0 x _ hx nxd, upd_same, base0, ⟨by rw [upd_ne ndf.symm, upd_same]; rfl, by simp, by simp, (fun e he => nomatch he), (fun e he => nomatch he)⟩, by rw [List.take_zero]; exact Grp.nil, Nat.zero_le _⟩
      (fun i σ H' _ ⟨_, _, _, _, _, h, _⟩ => h) ?_ ?_
    · rintro i y σ H' H'' hi ⟨F, s2, s3, rfl, hx', hd', keep, hF, hG, hFl⟩ ⟨rfl, k, v, q, hkv, rfl, hq⟩
      obtain ⟨t, p, hov, rfl⟩ := hk.at_ hkv
      have hk' : KR H'' kvs ov := by
        have : ∀ {kvs : List (List Key × V)} {ov : Ov}, KR H kvs ov → KR H'' kvs ov := by
          intro kvs ov h
          induction h with
          | nil => exact .nil
          | cons a _ ih =>
            obtain ⟨b, rfl, hb⟩ := a
            exact .cons ⟨b, rfl, keep b _ hb (by rintro rfl; rw [hd] at hb; cases hb)⟩ ih
        exact this hk
      have etake : (ov.map (·.1)).take (i + 1) = (ov.map (·.1)).take i ++ [t] := by
        rw [List.take_succ, List.getElem?_map, hov]; rfl
      refine ⟨_, rfl, df, rfl, .inr ⟨_, .inl hF.dict⟩, ?_⟩
      refine ⟨_, rfl, x, dx, _, rfl, hx', hlt, _, rfl, x, d, dx, fl, kvs, ov, ρ, _, t, H'', rfl, Sub.refl _, hx', hlo, .inr ⟨od, hd'⟩, hk', hρ, ⟨q, rfl, hq⟩, fun u hu' => ?_⟩
      obtain ⟨b, rfl, hb⟩ := hu'
      refine ⟨(by show 0 ≤ sizeLine; omega), fun l hl => ?_⟩
      have h0l : H l = none := by
        cases z : H l with
        | none => rfl
        | some o =>
          by_cases n : l = d
          · subst n; rw [hd'] at hl; cases hl
          · rw [keep l o z n] at hl; cases hl
      have nlx : x ≠ l := ne_of_none hx' hl
      have nld : d ≠ l := ne_of_none hd' hl
      have F1 := hF.newl (o := .lst []) hl
      have hb1 : (upd H'' l (.lst [])) b = some (.tup ((ktup (ρ t)).map kV)) := by rw [upd_ne (ne_of_none hb hl)]; exact hb
      have hq1 : (upd H'' l (.lst [])) q = some (.tup ((ktup t).map kV)) := by rw [upd_ne (ne_of_none hq hl)]; exact hq
      have hx1 : (upd H'' l (.lst [])) x = some (.ins C dx fl) := by rw [upd_ne nlx]; exact hx'
      have hd1 : (upd H'' l (.lst [])) d = some (.frz od (.dT kvs)) := by rw [upd_ne nld]; exact hd'
      have hk1 : ∀ b o, H b = some o → b ≠ d → (upd H'' l (.lst [])) b = some o := fun b o e n => by rw [upd_ne (ne_of_none e h0l)]; exact keep b o e n
      have hkl : (kvF F).length ≤ 2000 := by unfold kvF; rw [List.length_map]; omega
      refine ⟨kvF F, ktup (ρ t), b, F1.dict, rfl, hb1, by omega, fun v hv => ?_, fun hv => ?_⟩
      · obtain ⟨e, he, er, rfl⟩ := kvF_some hv
        obtain ⟨vs, g1, g2⟩ := F1.val e he
        have gl : vs.length ≤ 2000 := by
          rw [g2.len, hG.lot e he]
          have a1 := List.length_filter_le (fun u => decide (ρ u = e.1)) ((ov.map (·.1)).take i)
          rw [List.length_take] at a1
          omega
        refine ⟨.inl ⟨rfl, _, SqL.of g1⟩, _, rfl, e.2.1, vs, _, rfl, rfl, g1, by omega, ?_⟩
        have F2 := F1.push he g1 g2 (y := .ref q) (t := t) ⟨q, rfl, hq1⟩
        refine ⟨pushF F e.1 t, _, _, rfl, ?_, ?_, fun b o eb n => ?_, F2, ?_, by unfold pushF; rw [List.length_map]; omega⟩
        · rw [upd_ne (ne_of hx1 g1 (by intro z; cases z))]; exact hx1
        · rw [upd_ne (ne_of hd1 g1 (by intro z; cases z))]; exact hd1
        · rw [upd_ne (ne_of_none eb (hF.new e he))]; exact hk1 b o eb n
        · rw [etake, er]
          exact hG.push (by rw [← er]; exact List.mem_map.mpr ⟨e, he, rfl⟩)
      · have hr' := kvF_none hv
        have hnot : l ∉ F.map (·.2.1) := fun z => by
          obtain ⟨e, he, ez⟩ := List.mem_map.mp z
          obtain ⟨vs, g1, _⟩ := hF.val e he
          rw [ez, hl] at g1; cases g1
        have F2 := F1.addl (l := l) (r := ρ t) upd_same h0l hnot hr'
        rw [putK_new _ hv]
        have nlf : l ≠ df := by
          rintro rfl
          rw [hF.dict] at hl; cases hl
        have hl4 : (upd (upd H'' l (.lst [])) df (.dT (kvF F ++ [(ktup (ρ t), .ref l)]))) l = some (.lst []) := by rw [upd_ne nlf, upd_same]
        refine ⟨.inl ⟨rfl, _, SqL.of hl4⟩, _, rfl, l, [], _, rfl, rfl, hl4, (by show 0 < sizeLine; omega), ?_⟩
        have hq4 : (upd (upd H'' l (.lst [])) df (.dT (kvF F ++ [(ktup (ρ t), .ref l)]))) q = some (.tup ((ktup t).map kV)) := by rw [upd_ne (by rintro rfl; rw [F1.dict] at hq1; cases hq1)]; exact hq1
        have F3 := F2.push (e0 := (ρ t, l, [])) (by simp) hl4 .nil (y := .ref q) (t := t) ⟨q, rfl, hq4⟩
        refine ⟨pushF (F ++ [(ρ t, l, [])]) (ρ t) t, _, _, rfl, ?_, ?_, fun b o eb n => ?_, F3, ?_, by unfold pushF; rw [List.length_map, List.length_append]; simp; omega⟩
        · rw [upd_ne nlx, upd_ne nxf]; exact hx1
        · rw [upd_ne nld, upd_ne ndf]; exact hd1
        · rw [upd_ne (ne_of_none eb h0l), upd_ne (ne_of_none eb hdf)]; exact hk1 b o eb n
        · rw [etake]
          exact hG.add hr'
    · rintro σ H1 ⟨F, s2, s3, rfl, hx', hd', keep, hF, hG, hFl⟩
      have ekeys : (ov.map (·.1)).take kvs.length = ov.map (·.1) := by rw [List.take_of_length_le]; rw [List.length_map, hk.len]; exact Nat.le_refl _
      rw [ekeys] at hG
      refine ⟨hd', ?_⟩
      have keep5 : ∀ b o, H b = some o → (upd H1 d (.dT kvs)) b = some o := fun b o e => by
        by_cases n : b = d
        · subst n; rw [upd_same, ← e, hd]
        · rw [upd_ne n]; exact keep b o e n
      have hdf5 : (upd H1 d (.dT kvs)) df = some (.dT (kvF F)) := by rw [upd_ne ndf.symm]; exact hF.dict
      refine ⟨df, .dT (kvF F), hdf5, trivial, fun od2 => ?_⟩
      refine ⟨_, rfl, df, od2, kvF F, rfl, upd_same, ?_⟩
      intro D hD
      have lotAt : ∀ e ∈ F, ∃ vs, (upd (upd H1 d (.dT kvs)) df (.frz od2 (.dT (kvF F)))) e.2.1 = some (.lst vs) ∧ Tms (upd (upd H1 d (.dT kvs)) df (.frz od2 (.dT (kvF F)))) vs e.2.2 := fun e he => by
        obtain ⟨vs, g1, g2⟩ := hF.val e he
        have a1 : (upd H1 d (.dT kvs)) e.2.1 = some (.lst vs) := by rw [upd_ne (fun z => by rw [z, hd'] at g1; cases g1)]; exact g1
        have a2 := g2.upd (d := d) (o := .dT kvs) fun xs z => by rw [hd'] at z; cases z
        refine ⟨vs, by rw [upd_ne (fun z => by rw [z, hdf5] at a1; cases a1)]; exact a1, a2.upd fun xs z => by rw [hdf5] at z; cases z⟩
      refine lc_it (g := gName 3) (tt := tYes) (te := fun σ H Q => ∃ B0 H0 : Hp, tD K ⟨Res.none, B0, H0⟩ w_tupS σ H Q) (vs := [3]) (σ := [some (.ref x), some (.ref df), s2, s3]) (H1 := upd (upd H1 d (.dT kvs)) df (.frz od2 (.dT (kvF F)))) (D := D) (walk_valsT (d := df) (o := od2) (kvs := kvF F)) (fun i H' => ∃ acc, H' D = some (.lst acc) ∧ (∀ b o, (upd (upd H1 d (.dT kvs)) df (.frz od2 (.dT (kvF F)))) b = some o → H' b = some o) ∧ DaAll K (hide (hide H' df) D) acc ((F.take i).map fun e => eTs (srtT e.2.2)))
        ⟨[], upd_same, fun b o e => by rw [upd_ne (ne_of_none e hD)]; exact e, by rw [List.take_zero]; exact .nil⟩
        (fun i H' _ ⟨_, _, k, _⟩ => k df _ upd_same) ?_ ?_
      · rintro i y H' H'' hi ⟨acc, hacc, keep', hda⟩ ⟨rfl, k, hky⟩
        have hi' : i < F.length := by unfold kvF at hi; rw [List.length_map] at hi; exact hi
        have ey : y = .ref F[i].2.1 := by
          unfold kvF at hky
          rw [List.getElem?_map, List.getElem?_eq_getElem hi'] at hky
          have := Option.some.inj hky
          exact (Prod.mk.inj this).2.symm
        subst ey
        obtain ⟨vs, g1, g2⟩ := lotAt F[i] (List.getElem_mem hi')
        have k1 := keep' _ _ g1
        have hdf6 : H'' df = some (.frz od2 (.dT (kvF F))) := keep' df _ upd_same
        have g3 := ((g2.mono fun a o e => keep' a o e).hide (d := df) fun xs z => by rw [hdf6] at z; cases z)
        have nDd : D ≠ df := by rintro rfl; rw [hdf6] at hacc; cases hacc
        have g4 := g3.hide (d := D) fun xs z => by rw [hide_ne nDd, hacc] at z; cases z
        have nfe : F[i].2.1 ≠ df := fun z => by rw [z, hdf6] at k1; cases k1
        have nDe : F[i].2.1 ≠ D := fun z => by
          rw [z, hD] at g1; cases g1
        have k2 : (hide (hide H'' df) D) F[i].2.1 = some (.lst vs) := by rw [hide_ne nDe, hide_ne nfe]; exact k1
        have hsub : Sub (hide (hide H'' df) D) H'' := (hide_sub _ _).trans (hide_sub _ _)
        refine ⟨rfl, ?_⟩
        show ∃ B0 H0 : Hp, tD K ⟨Res.none, B0, H0⟩ w_tupS [some (.ref x), some (.ref df), s2, some (.ref F[i].2.1)] H'' _
        refine ⟨hide (hide H'' df) D, H'', [none, none, none, some (.d (.list (F[i].2.2.map eT)))], hide (hide H'' df) D, ⟨wf_none hsub, wf_none hsub, Ext.refl _ _ _, rfl, fun j z hz => ?_, fun j k xs ys p hz => ?_⟩, ?_⟩
        · match j, hz with
          | 3, hz =>
            simp at hz
            subst hz
            exact ⟨_, rfl, Da.lst k2 g4.da⟩
          | 0, hz => simp at hz
          | 1, hz => simp at hz
          | 2, hz => simp at hz
          | j + 4, hz => simp at hz
        · match j, hz with
          | 3, hz => simp at hz
          | 0, hz => simp at hz
          | 1, hz => simp at hz
          | 2, hz => simp at hz
          | j + 4, hz => simp at hz
        · unfold w_tupS
          simp only [q_blt, q_args1, q_args0, q_var, q_slot3, q_one, q_asLd]
          refine ⟨sorts_T _, ?_⟩
          simp only [q_tupL]
          intro v B' H3 e w sv
          have sv : Da K B' v (.tuple (srt (F[i].2.2.map eT))) := sv
          rw [(srtT_eq _).1] at sv
          have bD : B' D = none := e.f D (hide_at _ _) (by rw [hacc]; simp)
          have bf : B' df = none := e.f df (by rw [hide_ne nDd.symm, hide_at]) (by rw [hdf6]; simp)
          have sB : Sub B' (hide (hide (upd H3 D (.lst (acc ++ [v]))) df) D) := by
            refine sub_hide (sub_hide (fun a o ea => ?_) bf) bD
            rw [upd_ne (by rintro rfl; rw [bD] at ea; cases ea)]
            exact w.bh a o ea
          refine ⟨acc, e.h D _ hacc (fun z => z), ?_, acc ++ [v], upd_same, fun b o eb => ?_, ?_⟩
          · have a1 := hda.length
            rw [List.length_map, List.length_take] at a1
            omega
          · rw [upd_ne (ne_of_none eb hD)]
            exact e.h b o (keep' b o eb) (fun z => z)
          · have a1 := (hda.mono (e.b.trans sB)).append (.cons (sv.mono sB) .nil)
            rw [List.take_succ, List.getElem?_eq_getElem hi', List.map_append]
            exact a1
      · rintro H2 ⟨acc, hacc, keep', hda⟩
        have hdf6 : H2 df = some (.frz od2 (.dT (kvF F))) := keep' df _ upd_same
        refine ⟨hdf6, ?_⟩
        have nDd : D ≠ df := by rintro rfl; rw [hdf6] at hacc; cases hacc
        have el : (kvF F).length = F.length := by unfold kvF; rw [List.length_map]
        rw [el, List.take_length] at hda
        have eds : (F.map fun e => eTs (srtT e.2.2)) = (F.map fun (e : T × Addr × List T) => srtT e.2.2).map eTs := by rw [List.map_map]; rfl
        rw [eds] at hda
        have hne : ∀ l ∈ F.map (fun e => srtT e.2.2), l ≠ [] := fun l hl z => by
          obtain ⟨e, he, rfl⟩ := List.mem_map.mp hl
          obtain ⟨t, ht, et⟩ := hG.some_ e he
          have pm := (srtT_eq e.2.2).2
          rw [z] at pm
          have e0 : e.2.2 = [] := List.Perm.eq_nil pm.symm
          rw [hG.lot e he, List.filter_eq_nil_iff] at e0
          exact e0 t ht (by simpa using et)
        have dl : Da K (upd H2 df (.dT (kvF F))) (.ref D) (.list ((F.map fun (e : T × Addr × List T) => srtT e.2.2).map eTs)) := by
          refine .lst (by rw [upd_ne nDd]; exact hacc) (hda.mono fun a o ea => ?_)
          have a1 := hide_sub _ _ a o ea
          have na : a ≠ df := by
            rintro rfl
            rw [hide_at] at a1; cases a1
          rw [hide_ne na] at a1
          rw [upd_ne na]; exact a1
        refine ⟨upd H2 df (.dT (kvF F)), upd H2 df (.dT (kvF F)), upd H2 df (.dT (kvF F)), [.d (.list ((F.map fun (e : T × Addr × List T) => srtT e.2.2).map eTs))], wf_none (Sub.refl _), .cons dl .nil, ?_⟩
        show sortedF (.list ((F.map fun (e : T × Addr × List T) => srtT e.2.2).map eTs)) _
        refine ⟨sorts_Ts _ hne, ?_⟩
        intro v B' H3 e w sv
        have sv : Da K B' v (.list (srt ((F.map fun (e : T × Addr × List T) => srtT e.2.2).map eTs))) := sv
        obtain ⟨L, pm, eL⟩ := srt_map eTs decL decL_eTs (F.map fun (e : T × Addr × List T) => srtT e.2.2)
        rw [eL] at sv
        refine hQ v H3 L (fun b o eb => ?_) (sv.mono w.bh) ⟨by rw [pm.length_eq, List.length_map]; omega, fun l hl => ?_, fun t ht => ?_⟩
        · have nb : b ≠ df := ne_of_none eb hdf
          refine e.h b o ?_ (fun z => z)
          rw [upd_ne nb]
          refine keep' b o ?_
          rw [upd_ne nb]
          exact keep5 b o eb
        · obtain ⟨e, he, rfl⟩ := List.mem_map.mp (pm.mem_iff.mp hl)
          obtain ⟨t, ht, et⟩ := hG.some_ e he
          refine ⟨t, ht, ?_⟩
          have := (srtT_eq e.2.2).2
          rw [et]
          have e1 := hG.lot e he
          exact this.trans (by rw [← e1])
        · obtain ⟨e, he, et⟩ := List.mem_map.mp (hG.all t ht)
          refine ⟨srtT e.2.2, pm.mem_iff.mpr (List.mem_map.mpr ⟨e, he, rfl⟩), ?_⟩
          rw [← et]
          have e1 := hG.lot e he
          exact (srtT_eq e.2.2).2.trans (by rw [← e1])
end
end K85

set_option maxRecDepth 100000
set_option maxHeartbeats 2000000
namespace K85
open PySem L2 DL
theorem pssEx {X : Cx} {sts : List Stmt} (K : PySem.W.Frag) (W : SW) (hK : X.K = K) (h : ∀ B0 H0 : Hp, DSs X ⟨Res.none, B0, H0⟩ sts W) : PSs X sts (fun D σ H => ∃ B0 H0 : Hp, sD K ⟨Res.none, B0, H0⟩ W D σ H) := by
  subst hK
  exact ⟨fun pins s σ H D I ⟨B0, H0, q⟩ => (h B0 H0).ps.run pins s σ H D I q⟩
/-- the object, frozen -/
def CI (K : PySem.W.Frag) (C : Addr) (fs : List Fa) (ov : Ov) (ρ : T → T) : FP := ⟨fun B v => ∃ x dx fl d kvs u, v = .ref x ∧ B x = some (.ins C dx fl) ∧ fl.lookup ("facts" : Str) = some u ∧ Da K B u (eFas fs) ∧ fl.lookup ("over" : Str) = some (.ref d) ∧ fl.lookup ("top" : Str) = none ∧ B d = some (.dT kvs) ∧ KR B kvs ov ∧ Roots ov ρ,
  fun B B' v s ⟨x, dx, fl, d, kvs, u, e, h, l1, da, l2, l3, hd, hk, r⟩ => ⟨x, dx, fl, d, kvs, u, e, s _ _ h, l1, da.mono s, l2, l3, s _ _ hd, hk.mono s, r⟩⟩
abbrev sp_Classes_top (K : PySem.W.Frag) (C : Addr) : SpD := fun xs Q => ∃ fs ov ρ t, xs = [.p (CI K C fs ov ρ), .d (eT t)] ∧ Q (.d (eT (ρ t)))
theorem mono_Classes_top {K : PySem.W.Frag} {C : Addr} : MonoS (sp_Classes_top K C) := fun xs Q Q' i ⟨fs, ov, ρ, t, e, h⟩ => ⟨fs, ov, ρ, t, e, i _ h⟩
def w_lotB : SW := (wIf (wOpT gtF (wBlt (one lenF) [(wLc (wSeqE (wVar 1)) (.nm 3) (wOpT eqF (wIx (wVar 3) (wC (.int 0))) (wC (.str "c"))) (wVar 3) [3])]) (wC (.int 1))) (wRet (wC (.bool false))) wNil)
def w_retB (K : PySem.W.Frag) (C_Classes : Addr) : SW := (wRet (wNotV (wLc (wSeqE (wFld K (wVar 0) "facts")) (.nm 2) (wAndT (wOpT eqF (wIx (wVar 2) (wC (.int 0))) (wC (.str "!"))) (wOpT eqF (wMeth C_Classes "top" (sp_Classes_top K C_Classes) (wVar 0) [(wIx (wVar 2) (wC (.int 1)))]) (wMeth C_Classes "top" (sp_Classes_top K C_Classes) (wVar 0) [(wIx (wVar 2) (wC (.int 2)))]))) (wVar 2) [2])))
theorem fin_lotB (D : DEnds) (l : List T) (hl : l.length ≤ 2000) (s0 s2 s3 : Option DV) (h1 : 1 < (l.filter isC).length → D.rt (.d (.bool false))) (h2 : (l.filter isC).length ≤ 1 → D.nx [s0, some (.d (eTs l)), s2, s3]) : w_lotB D [s0, some (.d (eTs l)), s2, s3] := by
  unfold w_lotB
  simp only [q_if, q_opT, q_blt, q_args1, q_args0, q_lc, q_seqE, q_var, q_slot1, q_asLd, eTs, q_seqT]
  refine lcW_filter eT isC l (fun t ht Q q => ?_) (by rw [sz_eq]; omega) ?_
  · rw [q_bindN]
    show wOpT _ _ _ [s0, some (.d (eTs l)), s2, some (.d (eT t))] _
    simp only [q_opT, q_ix, q_var, q_slot3, q_C, q_onD, q_asLd, eT, q_ixT, q_at0, q_eq, v_str, q_asB]
    refine ⟨by simp, ?_⟩
    unfold isC at q
    cases z : (t.1 == ("c" : Str)) with
    | false => rw [z] at q; exact q
    | true => rw [z] at q; exact q
  · simp only [q_one, q_asLd, q_lenL, q_onD, q_C, q_gt, q_asB, List.length_map]
    cases z : decide ((1 : Int) < ((l.filter isC).length : Int)) with
    | true => exact h1 (by have := of_decide_eq_true z; omega)
    | false => exact h2 (by have := of_decide_eq_false z; omega)
theorem CI.ins {K : PySem.W.Frag} {C : Addr} (fs : List Fa) (ov : Ov) (ρ : T → T) : InsP (CI K C fs ov ρ) C "top" := fun B v ⟨x, dx, fl, d, kvs, u, e, h, l1, da, l2, l3, hd, hk, r⟩ => ⟨x, dx, fl, e, h, l3⟩
theorem CI.fld {K : PySem.W.Frag} {C : Addr} (M : CLC K C) (fs : List Fa) (ov : Ov) (ρ : T → T) : FldP K (CI K C fs ov ρ) "facts" (.d (eFas fs)) := ⟨trivial, fun B v ⟨x, dx, fl, d, kvs, u, e, h, l1, da, l2, l3, hd, hk, r⟩ => ⟨x, C, dx, fl, u, e, h, M.cls, M.facts, l1, da⟩⟩
def badF (ρ : T → T) (f : Fa) : Bool := !f.eq && decide (ρ f.a = ρ f.b)
theorem fin_retB {K : PySem.W.Frag} {C : Addr} (M : CLC K C) (D : DEnds) (fs : List Fa) (hf : fs.length ≤ 1000) (ov : Ov) (ρ : T → T) (s1 s2 s3 : Option DV) (h : D.rt (.d (.bool (fs.filter (badF ρ)).isEmpty))) : w_retB K C D [some (.p (CI K C fs ov ρ)), s1, s2, s3] := by
  unfold w_retB
  simp only [q_ret, q_notV, q_lc, q_seqE, q_fld, q_var, q_slot0]
  refine ⟨_, CI.fld M fs ov ρ, ?_⟩
  simp only [q_asLd, eFas, q_seqT]
  refine lcW_filter eFa (badF ρ) fs (fun f hf Q q => ?_) (by rw [sz_eq]; omega) ?_
  · rw [q_bindN]
    show wAndT _ _ [some (.p (CI K C fs ov ρ)), s1, some (.d (eFa f)), s3] _
    simp only [q_andT, q_opT, q_ix, q_var, q_slot2, q_C, q_onD, q_asLd, eFa, q_ixT, q_at0, q_eq, q_asB]
    refine ⟨by simp, ?_⟩
    rw [eSg_ne]
    unfold badF at q
    cases z : f.eq with
    | true => rw [z] at q; exact q
    | false =>
      have ef : eFa f = .tuple [eSg false, eT f.a, eT f.b] := by unfold eFa; rw [z]
      rw [z, ef] at q
      simp only [Bool.not_false, Bool.true_and] at q ⊢
      simp only [q_meth, q_args1, q_args0, q_ix, q_var, q_slot0, q_slot2, q_C, q_onD, q_asLd, q_ixT, q_at1, q_at2]
      refine ⟨CI.ins fs ov ρ, by simp, fs, ov, ρ, f.a, rfl, trivial, ?_⟩
      refine ⟨CI.ins fs ov ρ, by simp, fs, ov, ρ, f.b, rfl, trivial, ?_⟩
      simp only [q_onD, q_eq, q_asB]
      refine ⟨by rw [eT_depth, eT_depth]; simp, ?_⟩
      rw [eT_eqv]
      cases y : decide (ρ f.a = ρ f.b) with
      | true => rw [y] at q; exact q
      | false => rw [y] at q; exact q
  · simp only [q_truV, q_truL, q_unLd]
    have e : ((fs.filter (badF ρ)).map eFa).isEmpty = (fs.filter (badF ρ)).isEmpty := by cases fs.filter (badF ρ) <;> rfl
    rw [e, Bool.not_not]
    exact h
/-! ### what it answers -/
theorem key_mem (ov : Ov) (t : T) : lookT ov t ≠ none ↔ t ∈ ov.map (·.1) := by
  have := lookT_any t ov
  constructor
  · intro h
    have : (ov.any fun e => decide (e.1 = t)) = true := by
      rw [this]
      cases z : lookT ov t with
      | none => exact absurd z h
      | some _ => rfl
    obtain ⟨e, he, h⟩ := List.any_eq_true.mp this
    exact List.mem_map.mpr ⟨e, he, by simpa using h⟩
  · intro h z
    rw [z] at this
    obtain ⟨e, he, h⟩ := List.mem_map.mp h
    have := List.any_eq_false.mp this e he
    simp [h] at this
theorem lot_bad {fs : List Fa} {ov : Ov} {ρ : T → T} (J : Jn fs ov ρ) {L : List (List T)} (hL : LotsOk (ov.map (·.1)) ρ L) {l : List T} (hl : l ∈ L) (h : 1 < (l.filter isC).length) : canB fs = false := by
  cases z : canB fs with
  | false => rfl
  | true =>
    exfalso
    have h1 := ((can_of J).mp z).1
    obtain ⟨t, ht, pm⟩ := hL.lot l hl
    have nd : l.Nodup := pm.nodup_iff.mpr (J.nd.filter _)
    have := (filter_one nd).mpr fun x hx y hy cx cy => by
      have mx := List.mem_filter.mp (pm.mem_iff.mp hx)
      have my := List.mem_filter.mp (pm.mem_iff.mp hy)
      exact h1 x y ((key_mem ov x).mpr mx.1) ((key_mem ov y).mpr my.1) ((of_decide_eq_true mx.2).trans (of_decide_eq_true my.2).symm) cx cy
    omega
theorem lots_good {fs : List Fa} {ov : Ov} {ρ : T → T} (J : Jn fs ov ρ) {L : List (List T)} (hL : LotsOk (ov.map (·.1)) ρ L) (h : ∀ l ∈ L, (l.filter isC).length ≤ 1) : (fs.filter (badF ρ)).isEmpty = canB fs := by
  have key : canB fs = true ↔ (fs.filter (badF ρ)).isEmpty = true := by
    rw [can_of J, List.isEmpty_iff, List.filter_eq_nil_iff]
    constructor
    · rintro ⟨_, h2⟩ f hf z
      unfold badF at z
      simp only [Bool.and_eq_true, Bool.not_eq_true', decide_eq_true_eq] at z
      exact h2 f hf z.1 z.2
    · intro h2
      refine ⟨fun x y kx ky e cx cy => ?_, fun f hf q e => h2 f hf ?_⟩
      · obtain ⟨l, hl, pm⟩ := hL.all x ((key_mem ov x).mp kx)
        have nd : l.Nodup := pm.nodup_iff.mpr (J.nd.filter _)
        refine (filter_one nd).mp (h l hl) x (pm.mem_iff.mpr (List.mem_filter.mpr ⟨(key_mem ov x).mp kx, by simp⟩)) y (pm.mem_iff.mpr (List.mem_filter.mpr ⟨(key_mem ov y).mp ky, by simp [e]⟩)) cx cy
      · unfold badF
        simp [q, e]
  cases a : canB fs <;> cases b : (fs.filter (badF ρ)).isEmpty <;> simp [a, b] at key ⊢
def spCan (K : PySem.W.Frag) (C : Addr) : Sp := fun vs H Q _ => ∃ (x d dx : Addr) (fl : List (Str × V)) (u : V) (kvs : List (List Key × V)) (fs : List Fa) (ov : Ov) (ρ : T → T), vs = [.ref x] ∧ H x = some (.ins C dx fl) ∧ fl.lookup ("facts" : Str) = some u ∧ Da K H u (eFas fs) ∧ fl.lookup ("over" : Str) = some (.ref d) ∧
  fl.lookup ("top" : Str) = none ∧ fl.lookup ("lots" : Str) = none ∧ H d = some (.dT kvs) ∧ KR H kvs ov ∧ Jn fs ov ρ ∧ kvs.length ≤ 2000 ∧ fs.length ≤ 1000 ∧ ∀ H', Sub H H' → Q (.bl (canB fs)) H'
section
variable {P : Program} {w : World} {K : PySem.W.Frag} {mg : Str → Option Value} {base : Heap}
theorem sc_Classes_can : FnScope ["self", "lot", "fact", "term"] ["self"] (defScope s_Classes_can_hold) := ⟨rfl, rfl, rfl, by decide +kernel, rfl, by decide +kernel, by decide +kernel⟩
theorem bn_Classes_can {K : PySem.W.Frag} {f : Addr} {fd : FuncData} (F : FnP K "can_hold" "Classes.can_hold" s_Classes_can_hold [] f fd) : Binds K fd ["self"] [] := FunD.bindsN F fun _ _ _ _ _ _ us hl => match us, hl with | [_], _ => rfl
theorem mth_top {f C : Addr} {fd : FuncData} {Z : Res} (M : CLC K C) (F : FnP K "top" "Classes.top" s_Classes_top [] f fd) (mT : Meth K C "top" f) : Mth P w K mg base Z 1 C "top" (sp_Classes_top K C) := by
  refine ⟨⟨f, fd, _, [], [], spTop K C, M.cls, mT, ok_Classes_top M F, bn_Classes_top F, .nil, fun vs H Q E h => ?_⟩, mono_Classes_top⟩
  obtain ⟨B, xs, wf, sv, fs, ov, ρ, t, rfl, h⟩ := h
  cases sv with
  | cons s1 sv =>
    cases sv with
    | cons s2 sv =>
      cases sv
      obtain ⟨x, dx, fl, d, kvs, u, rfl, hx, l1, da, l2, l3, hd, hk, r⟩ := s1
      refine ⟨x, d, dx, fl, kvs, ov, ρ, _, t, B, rfl, wf.bh, wf.bh _ _ hx, l2, .inl (wf.bh _ _ hd), hk, r, .of s2, fun u hu => ?_⟩
      exact h u B H (Ext.refl _ _ _) wf hu.da
theorem ok_Classes_can {f C fT fL : Addr} {fd fdT fdL : FuncData} (M : CLC K C) (T : Txt mg) (F : FnP K "can_hold" "Classes.can_hold" s_Classes_can_hold [] f fd) (FT : FnP K "top" "Classes.top" s_Classes_top [] fT fdT) (mT : Meth K C "top" fT) (FL : FnP K "lots" "Classes.lots" s_Classes_lots [] fL fdL) (mL : Meth K C "lots" fL) : FnOk P w K mg base CX0 3 f fd ["self"] (spCan K C) := by
  have GL : FnOk P w K mg base CX0 2 fL fdL ["self"] (spLots K C) := ok_Classes_lots M T FL FT mT
  have bL := bn_Classes_lots FL
  refine F.ok sc_Classes_can (fun vs H Q E h => ?_) (fun cdv A outer s H vs Q E hr h => ?_)
  · obtain ⟨x, d, dx, fl, u, kvs, fs, ov, ρ, rfl, _⟩ := h
    rfl
  · obtain ⟨x, d, dx, fl, u, kvs, fs, ov, ρ, rfl, hx, l1, da, l2, l3, l4, hd, hk, J, hlen, hfl, hQ⟩ := h
    have hu := hr.units
    have nd := sc_Classes_can.nd
    have c_Classes_top : ∀ Z : Res, Mth P w K mg base Z 1 C "top" (sp_Classes_top K C) := fun Z => mth_top M FT mT
    refine ⟨_, PSs.nox (pss_cons (ps_for PassesOwn.never rfl (pi_list (pe_meth0 (pv 0) M.cls mL GL hr bL .nil pass0 (by rfl))) (pg_name (i := 1) nd rfl (Or.inl rfl))
        (pssEx K w_lotB rfl fun _ _ => (ds_one (ds_if (dt_cmp o_gt m_gt (de_blt b_len (mono_one m_len) rfl T.len (by decide +kernel) (da_cons (de_lc [("term", 3)] nd (die_seq (de_var 1)) (by kernel_rfl) (fun _ _ _ _ _ => (dg_nm 3 nd)) (fun _ _ _ _ _ => (dts_one (dt_cmp (o_eq hu) m_eq (de_ix (de_var 3) de_int) de_str))) (fun _ _ _ _ _ => (de_var 3))) da_nil)) de_int) (ds_one (ds_ret de_bl)) ds_nil))))
      (pssEx K (w_retB K C) rfl fun _ _ => (ds_one (ds_ret (de_notT (de_lc [("fact", 2)] nd (die_seq (de_fld (de_var 0))) (by kernel_rfl) (fun _ _ _ _ _ => (dg_nm 2 nd)) (fun _ _ _ _ _ => (dts_one (DW.dt (dw_and (dt_cmp (o_eq hu) m_eq (de_ix (de_var 2) de_int) de_str) (dw_and1 (dt_cmp (o_eq hu) m_eq (de_meth (c_Classes_top _) hr (de_var 0) (da_cons (de_ix (de_var 2) de_int) da_nil)) (de_meth (c_Classes_top _) hr (de_var 0) (da_cons (de_ix (de_var 2) de_int) da_nil)))))))) (fun _ _ _ _ _ => (de_var 2)))))))), ?_⟩
    refine ⟨_, rfl, x, dx, _, rfl, hx, l4, x, d, dx, fl, kvs, ov, ρ, rfl, hx, l2, l3, hd, hk, J.roots, J.nd, hlen, fun v H1 L s1 hv hL => ?_⟩
    cases hv with
    | @lst p xs ds hp hall =>
    have hxl : xs.length = L.length := by have := hall.length; simpa using this
    have ll : ∀ l ∈ L, l.length ≤ 2000 := fun l hl => by
      obtain ⟨t, _, pm⟩ := hL.lot l hl
      rw [pm.length_eq]
      have a1 := List.length_filter_le (fun u => decide (ρ u = ρ t)) (ov.map (·.1))
      rw [List.length_map, ← hk.len] at a1
      omega
    refine ⟨p, rfl, ⟨xs, SqL.of hp⟩, for_it (g := gName 1) (tb := fun D σ H => ∃ B0 H0 : Hp, sD K ⟨Res.none, B0, H0⟩ w_lotB D σ H) (walk_list (K := K) (a := p) (xs := xs)) (fun i σ H' => σ.length = 4 ∧ σ[0]? = some (some (.ref x)) ∧ Sub H1 H' ∧ ∀ l ∈ L.take i, (l.filter isC).length ≤ 1)
      ⟨rfl, rfl, Sub.refl _, fun l hl => by simp at hl⟩ (fun i σ H' _ ⟨_, _, sb, _⟩ => SqL.of (sb _ _ hp)) ?_ ?_⟩
    · rintro i y σ H' H'' hi ⟨hl4, h0, sb, hok⟩ ⟨rfl, hy⟩
      have hi' : i < L.length := by omega
      obtain ⟨dy, e1, hdy⟩ := hall.getV hy
      rw [List.getElem?_map, List.getElem?_eq_getElem hi'] at e1
      cases e1
      have hm : L[i] ∈ L := List.getElem_mem hi'
      have etake : L.take (i + 1) = L.take i ++ [L[i]] := by rw [List.take_succ, List.getElem?_eq_getElem hi']; rfl
      show ∃ B0 H0 : Hp, sD K ⟨Res.none, B0, H0⟩ w_lotB _ (σ.set 1 (some y)) H''
      refine ⟨H'', H'', [some (.o (.ref x)), some (.d (eTs L[i])), none, none], H'', ⟨wf_none (Sub.refl _), wf_none (Sub.refl _), Ext.refl _ _ _, by rw [List.length_set, hl4]; rfl, fun j z hz => ?_, fun j k xs ys p hz => ?_⟩, ?_⟩
      · match j, hz with
        | 0, hz =>
          simp at hz
          subst hz
          exact ⟨_, by rw [List.getElem?_set_ne (by omega)]; exact h0, rfl⟩
        | 1, hz =>
          simp at hz
          subst hz
          exact ⟨_, List.getElem?_set_self (by omega), Da.mono sb hdy⟩
        | 2, hz => simp at hz
        | 3, hz => simp at hz
        | j + 4, hz => simp at hz
      · match j, hz with
        | 3, hz => simp at hz
        | 0, hz => simp at hz
        | 1, hz => simp at hz
        | 2, hz => simp at hz
        | j + 4, hz => simp at hz
      · refine fin_lotB _ _ (ll _ hm) _ _ _ (fun hc => ?_) (fun hc => ?_)
        · intro v B' H3 e w sv
          cases sv
          have := hQ H3 (s1.trans (sb.trans fun a o ea => e.h a o ea (fun z => z)))
          rw [lot_bad J hL hm hc] at this
          exact this
        · intro σ' B' H3 sB I
          obtain ⟨v0, g1, g2⟩ := I.slot 0 (.o (.ref x)) rfl
          cases g2
          refine ⟨I.len.symm, g1, sb.trans fun a o ea => I.ex.h a o ea (fun z => z), fun l hl => ?_⟩
          rw [etake] at hl
          rcases List.mem_append.mp hl with hl | hl
          · exact hok l hl
          · rw [List.mem_singleton.mp hl]; exact hc
    · rintro σ H' ⟨hl4, h0, sb, hok⟩
      rw [hxl, List.take_length] at hok
      have sH : Sub H H' := s1.trans sb
      show ∃ B0 H0 : Hp, sD K ⟨Res.none, B0, H0⟩ (w_retB K C) _ σ H'
      refine ⟨H', H', [some (.p (CI K C fs ov ρ)), none, none, none], H', ⟨wf_none (Sub.refl _), wf_none (Sub.refl _), Ext.refl _ _ _, by rw [hl4]; rfl, fun j z hz => ?_, fun j k xs ys p hz => ?_⟩, ?_⟩
      · match j, hz with
        | 0, hz =>
          simp at hz
          subst hz
          exact ⟨_, h0, x, dx, fl, d, kvs, u, rfl, sH _ _ hx, l1, da.mono sH, l2, l3, sH _ _ hd, hk.mono sH, J.roots⟩
        | 1, hz => simp at hz
        | 2, hz => simp at hz
        | 3, hz => simp at hz
        | j + 4, hz => simp at hz
      · match j, hz with
        | 3, hz => simp at hz
        | 0, hz => simp at hz
        | 1, hz => simp at hz
        | 2, hz => simp at hz
        | j + 4, hz => simp at hz
      · refine fin_retB M _ fs hfl ov ρ _ _ _ ?_
        intro v B' H3 e w sv
        rw [lots_good J hL hok] at sv
        cases sv
        exact hQ H3 (sH.trans fun a o ea => e.h a o ea (fun z => z))
end
end K85

set_option maxRecDepth 100000
set_option maxHeartbeats 2000000
namespace K85
open PySem L2 DL
/-- a heap that is only greater -/
theorem ext_up {Z : Res} {B H H' : Hp} (w : Wf Z B H) (s : Sub H H') : Ext Z B H B H' ∧ Wf Z B H' := by
  refine ⟨⟨Sub.refl _, fun a o e _ => s a o e, fun a h _ => h⟩, ⟨w.bh.trans s, Z.stab w.r (Sub.refl _) fun a t => ?_, w.tb, fun a t z => ?_⟩⟩
  · cases e : H a with
    | none => exact absurd e (w.th a t)
    | some o => exact s a o e
  · cases e : H a with
    | none => exact w.th a t e
    | some o => rw [s a o e] at z; cases z
/-- .. with one new frozen object -/
theorem ext_new {Z : Res} {B H H' : Hp} {p : Addr} {o : HO} (w : Wf Z B H) (hp : H p = none) (s : Sub H H') (h' : H' p = some o) : Ext Z B H (upd B p o) H' ∧ Wf Z (upd B p o) H' := by
  have bp : B p = none := w.bh.free hp
  have nt : ∀ a, Z.T a → a ≠ p := fun a t e => w.th a t (e ▸ hp)
  refine ⟨⟨Sub.new bp, fun a u e _ => s a u e, fun a h n => by rw [upd_ne (by rintro rfl; exact n hp)]; exact h⟩, ⟨fun a u e => ?_, Z.stab w.r (Sub.new bp) fun a t => ?_, fun a t => by rw [upd_ne (nt a t)]; exact w.tb a t, fun a t z => ?_⟩⟩
  · by_cases n : a = p
    · subst n; rw [upd_same] at e; rw [← e]; exact h'
    · rw [upd_ne n] at e; exact s a u (w.bh a u e)
  · cases e : H a with
    | none => exact absurd e (w.th a t)
    | some u => exact s a u e
  · cases e : H a with
    | none => exact w.th a t e
    | some u => rw [s a u e] at z; cases z
section
variable {P : Program} {w : World} {K : PySem.W.Frag} {mg : Str → Option Value} {base : Heap}
theorem sc_can_hold : FnScope ["facts"] ["facts"] (defScope s_can_hold) := ⟨rfl, rfl, rfl, by decide +kernel, rfl, by decide +kernel, by decide +kernel⟩
theorem bn_can_hold {K : PySem.W.Frag} {f : Addr} {fd : FuncData} (F : FnP K "can_hold" "can_hold" s_can_hold [] f fd) : Binds K fd ["facts"] [] := FunD.bindsN F fun _ _ _ _ _ _ us hl => match us, hl with | [_], _ => rfl
theorem ok_can_hold {Z : Res} {f C fI fT fL fC : Addr} {fd fdI fdT fdL fdC : FuncData} (M : CLC K C) (T : Txt mg) (F : FnP K "can_hold" "can_hold" s_can_hold [] f fd) (hmg : mg "Classes" = some (.ref C)) (mI : Mk K C fI)
    (FI : FnP K "__init__" "Classes.__init__" s_Classes___init__ [] fI fdI) (FT : FnP K "top" "Classes.top" s_Classes_top [] fT fdT) (mT : Meth K C "top" fT) (FL : FnP K "lots" "Classes.lots" s_Classes_lots [] fL fdL) (mL : Meth K C "lots" fL)
    (FC : FnP K "can_hold" "Classes.can_hold" s_Classes_can_hold [] fC fdC) (mC : Meth K C "can_hold" fC) : FnOk P w K mg base CX0 10 f fd ["facts"] (DSp K Z sp_can_hold) := by
  have GI : FnOk P w K mg base CX0 2 fI fdI ["self", "facts"] (spInitC K C) := ok_Classes_init M FI FT mT
  have GC : FnOk P w K mg base CX0 3 fC fdC ["self"] (spCan K C) := ok_Classes_can M T FC FT mT FL mL
  have bI := bn_Classes_init FI
  have bC := bn_Classes_can FC
  refine F.ok sc_can_hold (fun vs H Q E h => ?_) (fun cdv A outer s H vs Q E hr h => ?_)
  · obtain ⟨B, xs, wf, sv, fs, rfl, _⟩ := h
    rw [← sv.length]; rfl
  · obtain ⟨B, xs, wf, sv, fs, rfl, hfl, h⟩ := h
    cases sv with
    | @cons _ v _ _ s1 sv =>
    cases sv
    have da : Da K B v (eFas fs) := s1
    have hr3 : Room 3 (A.deeper (PyProof.Rows.envOfC "can_hold" (defScope s_can_hold) s.heap.objs.size f cdv)) := hr.mono (by decide)
    refine ⟨_, PSs.nox (pss_one (ps_ret (pe_meth0 (pe_make mI GI hr3 rfl hmg bI .nil pass0 (pa_cons (pv 0) pa_nil) (by decide) rfl rfl) M.cls mC GC hr3 bC .nil pass0 (by rfl)))), ?_⟩
    refine ⟨_, rfl, ?_⟩
    intro x dx nx ndx nex
    have sub1 : Sub H (upd (upd H dx (.own x)) x (.ins C dx [])) := fun a o e => by rw [upd_ne (ne_of_none e nx), upd_ne (ne_of_none e ndx)]; exact e
    refine ⟨x, dx, v, fs, rfl, upd_same, da.mono (wf.bh.trans sub1), hfl, fun d kvs ov ρ H' hd hx hdd hk J hn keep => ⟨rfl, ?_⟩⟩
    have sub2 : Sub H H' := fun a o e => keep a o (sub1 a o e) (ne_of_none e nx)
    refine ⟨x, dx, _, rfl, hx, flC_no _ _ (by decide +kernel) (by decide +kernel), ?_⟩
    refine ⟨x, d, dx, flC v d, v, kvs, fs, ov, ρ, rfl, hx, flC_facts _ _, da.mono (wf.bh.trans sub2), flC_over _ _, flC_no _ _ (by decide +kernel) (by decide +kernel), flC_no _ _ (by decide +kernel) (by decide +kernel), hdd, hk, J, hn, hfl, fun H2 s2 => ?_⟩
    have := ext_up wf (sub2.trans s2)
    exact h (.bl (canB fs)) B H2 this.1 this.2 (.bl _)
/-! ### WayMaker.__init__ -/
def flW (v1 v2 v3 v4 : V) : List (Str × V) := putF "beside" (.int 1) (putF "letters" v4 (putF "role" v3 (putF "ask" v2 (putF "app" v1 []))))
def w_len3 : EW := (wBlt (one lenF) [(wIx (wVar 2) (wC (.int 3)))])
def spInitW (K : PySem.W.Frag) (C : Addr) : Sp := fun vs H Q _ => ∃ (x dx : Addr) (v1 v2 v3 v4 : V) (G : Hp) (a : Ask), vs = [.ref x, v1, v2, v3, v4] ∧ H x = some (.ins C dx []) ∧ Sub G H ∧ G x = none ∧ Da K G v2 (eAsk a) ∧
  ∀ H', H' x = some (.ins C dx (flW v1 v2 v3 v4)) → (∀ b o, H b = some o → b ≠ x → H' b = some o) → Q .non H'
theorem sc_WayMaker_init : FnScope ["self", "app", "ask", "role", "letters"] ["self", "app", "ask", "role", "letters"] (defScope s_WayMaker___init__) := ⟨rfl, rfl, rfl, by decide +kernel, rfl, by decide +kernel, by decide +kernel⟩
theorem bn_WayMaker_init {K : PySem.W.Frag} {f : Addr} {fd : FuncData} (F : FnP K "__init__" "WayMaker.__init__" s_WayMaker___init__ [] f fd) : Binds K fd ["self", "app", "ask", "role", "letters"] [] := FunD.bindsN F fun _ _ _ _ _ _ us hl => match us, hl with | [_, _, _, _, _], _ => rfl
theorem ok_WayMaker_init {f C : Addr} {fd : FuncData} (M : WMC K C) (hle : NoAttr K C "letters") (T : Txt mg) (F : FnP K "__init__" "WayMaker.__init__" s_WayMaker___init__ [] f fd) : FnOk P w K mg base CX0 1 f fd ["self", "app", "ask", "role", "letters"] (spInitW K C) := by
  refine F.ok sc_WayMaker_init (fun vs H Q E h => ?_) (fun cdv A outer s H vs Q E hr h => ?_)
  · obtain ⟨x, dx, v1, v2, v3, v4, G, a, rfl, _⟩ := h
    rfl
  · obtain ⟨x, dx, v1, v2, v3, v4, G, a, rfl, hx, sG, gx, da, hQ⟩ := h
    refine ⟨_, PSs.nox (pss_cons (ps_fld (pv 0) (pv 1) rfl) (pss_cons (ps_fld (pv 0) (pv 2) rfl) (pss_cons (ps_fld (pv 0) (pv 3) rfl) (pss_cons (ps_fld (pv 0) (pv 4) rfl)
      (pss_one (ps_fld (pv 0) (peEx K w_len3 rfl fun _ _ => (de_blt b_len (mono_one m_len) rfl T.len (by decide +kernel) (da_cons (de_ix (de_var 2) de_int) da_nil))) rfl)))))), ?_⟩
    refine ⟨_, rfl, _, rfl, x, C, dx, [], rfl, hx, M.cls, M.app, (by show 0 < 1000; decide), ?_⟩
    refine ⟨_, rfl, _, rfl, x, C, dx, _, rfl, upd_same, M.cls, M.ask, (by show 1 < 1000; decide), ?_⟩
    refine ⟨_, rfl, _, rfl, x, C, dx, _, rfl, upd_same, M.cls, M.role, (by show 2 < 1000; decide), ?_⟩
    refine ⟨_, rfl, _, rfl, x, C, dx, _, rfl, upd_same, M.cls, hle, (by show 3 < 1000; decide), ?_⟩
    generalize hH4 : (upd (upd (upd (upd H x (.ins C dx (putF "app" v1 []))) x (.ins C dx (putF "ask" v2 (putF "app" v1 [])))) x (.ins C dx (putF "role" v3 (putF "ask" v2 (putF "app" v1 []))))) x (.ins C dx (putF "letters" v4 (putF "role" v3 (putF "ask" v2 (putF "app" v1 [])))))) = H4
    have h4x : H4 x = some (.ins C dx (putF "letters" v4 (putF "role" v3 (putF "ask" v2 (putF "app" v1 []))))) := by rw [← hH4, upd_same]
    have h4 : ∀ b o, H b = some o → b ≠ x → H4 b = some o := fun b o e n => by rw [← hH4, upd_ne n, upd_ne n, upd_ne n, upd_ne n]; exact e
    have sG4 : Sub G H4 := fun b o e => h4 b o (sG b o e) (by rintro rfl; rw [gx] at e; cases e)
    refine ⟨G, H4, [none, none, some (.d (eAsk a)), none, none], G, ⟨wf_none sG4, wf_none sG4, Ext.refl _ _ _, rfl, fun j z hz => ?_, fun j k xs ys p hz => ?_⟩, ?_⟩
    · match j, hz with
      | 2, hz =>
        simp at hz
        subst hz
        exact ⟨_, rfl, da⟩
      | 0, hz => simp at hz
      | 1, hz => simp at hz
      | 3, hz => simp at hz
      | 4, hz => simp at hz
      | j + 5, hz => simp at hz
    · match j, hz with
      | 2, hz => simp at hz
      | 0, hz => simp at hz
      | 1, hz => simp at hz
      | 3, hz => simp at hz
      | 4, hz => simp at hz
      | j + 5, hz => simp at hz
    · unfold w_len3
      simp only [q_blt, q_args1, q_args0, q_ix, q_var, q_slot2, q_C, q_onD, q_asLd, eAsk, q_ixT, q_at3, q_one, q_lenT]
      intro v B' H5 e w5 sv
      cases sv
      have e5 : ∀ b o, H4 b = some o → H5 b = some o := fun b o e1 => e.h b o e1 (fun z => z)
      refine ⟨_, rfl, x, C, dx, _, rfl, e5 x _ h4x, M.cls, M.beside, (by show 4 < 1000; decide), ?_⟩
      refine hQ _ upd_same fun b o e1 n => ?_
      rw [upd_ne n]
      exact e5 b o (h4 b o e1 n)
theorem neS (a b : String) (h : (Str.ofString a == Str.ofString b) = false) : ¬ (Str.ofString a = Str.ofString b) := fun e => by rw [e] at h; simp at h
theorem flW_no (v1 v2 v3 v4 : V) {m : Str} (h1 : ¬ m = "beside") (h2 : ¬ m = "letters") (h3 : ¬ m = "role") (h4 : ¬ m = "ask") (h5 : ¬ m = "app") : (flW v1 v2 v3 v4).lookup m = none := by
  unfold flW
  rw [lookup_putF, if_neg h1, lookup_putF, if_neg h2, lookup_putF, if_neg h3, lookup_putF, if_neg h4, lookup_putF, if_neg h5]
  rfl
theorem flW_beside (v1 v2 v3 v4 : V) : (flW v1 v2 v3 v4).lookup ("beside" : Str) = some (.int 1) := by unfold flW; rw [lookup_putF, if_pos rfl]
theorem flW_role (v1 v2 v3 v4 : V) : (flW v1 v2 v3 v4).lookup ("role" : Str) = some v3 := by
  unfold flW; rw [lookup_putF, if_neg (by decide +kernel), lookup_putF, if_neg (by decide +kernel), lookup_putF, if_pos rfl]
theorem flW_ask (v1 v2 v3 v4 : V) : (flW v1 v2 v3 v4).lookup ("ask" : Str) = some v2 := by
  unfold flW; rw [lookup_putF, if_neg (by decide +kernel), lookup_putF, if_neg (by decide +kernel), lookup_putF, if_neg (by decide +kernel), lookup_putF, if_pos rfl]
theorem flW_app (v1 v2 v3 v4 : V) : (flW v1 v2 v3 v4).lookup ("app" : Str) = some v1 := by
  unfold flW; rw [lookup_putF, if_neg (by decide +kernel), lookup_putF, if_neg (by decide +kernel), lookup_putF, if_neg (by decide +kernel), lookup_putF, if_neg (by decide +kernel), lookup_putF, if_pos rfl]
theorem wm_names : ∀ m ∈ wmMeths, ¬ m = ("beside" : Str) ∧ ¬ m = ("letters" : Str) ∧ ¬ m = ("role" : Str) ∧ ¬ m = ("ask" : Str) ∧ ¬ m = ("app" : Str) := by decide +kernel
theorem mk_WayMaker {Z : Res} {f C : Addr} {fd : FuncData} (M : WMC K C) (hle : NoAttr K C "letters") (T : Txt mg) (F : FnP K "__init__" "WayMaker.__init__" s_WayMaker___init__ [] f fd) (mI : Mk K C f) (hmg : mg "WayMaker" = some (.ref C)) : Mkr P w K mg base Z 1 "WayMaker" (mk_sp_WayMaker K C) := by
  refine ⟨⟨C, f, fd, _, [], [], spInitW K C, mI, ok_WayMaker_init M hle T F, hmg, bn_WayMaker_init F, .nil, fun vs H Q E h a dx na ndx nex => ?_⟩, mono_mk_WayMaker⟩
  obtain ⟨B, xs, wf, sv, A, k, rfl, h⟩ := h
  cases sv with
  | @cons _ v1 _ _ s1 sv =>
  cases sv with
  | @cons _ v2 _ _ s2 sv =>
  cases sv with
  | @cons _ v3 _ _ s3 sv =>
  cases sv with
  | @cons _ v4 _ _ s4 sv =>
  cases sv
  have sub1 : Sub H (upd (upd H dx (.own a)) a (.ins C dx [])) := fun b o e => by rw [upd_ne (ne_of_none e na), upd_ne (ne_of_none e ndx)]; exact e
  have ba : B a = none := wf.bh.free na
  refine ⟨a, dx, v1, v2, v3, v4, B, k, rfl, upd_same, wf.bh.trans sub1, ba, s2, fun H' hx keep => ⟨rfl, ?_⟩⟩
  have sub2 : Sub H H' := fun b o e => keep b o (sub1 b o e) (ne_of_none e na)
  obtain ⟨ex, w'⟩ := ext_new wf na sub2 hx
  have sB : Sub B (upd B a (.ins C dx (flW v1 v2 v3 v4))) := Sub.new ba
  refine h (.ref a) _ H' ex w' ⟨a, dx, _, rfl, upd_same, ⟨_, flW_app _ _ _ _, Da.mono sB s1⟩, ⟨_, flW_ask _ _ _ _, Da.mono sB s2⟩, ⟨_, flW_role _ _ _ _, Da.mono sB s3⟩, ⟨_, flW_beside _ _ _ _, .int 1⟩, fun m hm => ?_⟩
  obtain ⟨n1, n2, n3, n4, n5⟩ := wm_names m hm
  exact flW_no _ _ _ _ n1 n2 n3 n4 n5
end
end K85

set_option maxRecDepth 100000
set_option maxHeartbeats 2000000
namespace K85
open PySem L2 DL
/-! ### the barn -/
def barnK (d t : Int) (p q : Addr) : List (Key × V) := [(Sum.inr "dust", .int d), (Sum.inr "turn", .int t), (Sum.inr "bales", .ref p), (Sum.inr "doors", .ref q)]
section
variable {H : Hp} {b : Addr} {d t : Int} {p q : Addr}
theorem val_dust : valV (barnK d t p q) (Sum.inr "dust") = some (.int d) := by kernel_rfl
theorem val_turn : valV (barnK d t p q) (Sum.inr "turn") = some (.int t) := by kernel_rfl
theorem val_bales : valV (barnK d t p q) (Sum.inr "bales") = some (.ref p) := by kernel_rfl
theorem val_doors : valV (barnK d t p q) (Sum.inr "doors") = some (.ref q) := by kernel_rfl
theorem put_dust (d' : Int) : putK (barnK d t p q) (Sum.inr "dust") (.int d') = barnK d' t p q := by kernel_rfl
theorem put_turn (t' : Int) : putK (barnK d t p q) (Sum.inr "turn") (.int t') = barnK d t' p q := by kernel_rfl
theorem dg_dust (h : H b = some (.dK (barnK d t p q))) : DGet H b (.str "dust") (some (.int d)) := by
  have := DGet.k (k := Sum.inr "dust") h
  rw [val_dust] at this; exact this
theorem dg_turn (h : H b = some (.dK (barnK d t p q))) : DGet H b (.str "turn") (some (.int t)) := by
  have := DGet.k (k := Sum.inr "turn") h
  rw [val_turn] at this; exact this
theorem dg_bales (h : H b = some (.dK (barnK d t p q))) : DGet H b (.str "bales") (some (.ref p)) := by
  have := DGet.k (k := Sum.inr "bales") h
  rw [val_bales] at this; exact this
theorem dg_doors (h : H b = some (.dK (barnK d t p q))) : DGet H b (.str "doors") (some (.ref q)) := by
  have := DGet.k (k := Sum.inr "doors") h
  rw [val_doors] at this; exact this
theorem dp_dust (d' : Int) (h : H b = some (.dK (barnK d t p q))) : DPut H b (.str "dust") (.int d') (upd H b (.dK (barnK d' t p q))) := by
  have := DPut.k (k := Sum.inr "dust") (v := .int d') h (by show 4 < sizeLine; rw [sizeLine_eq]; omega)
  rw [put_dust] at this; exact this
theorem dp_turn (t' : Int) (h : H b = some (.dK (barnK d t p q))) : DPut H b (.str "turn") (.int t') (upd H b (.dK (barnK d t' p q))) := by
  have := DPut.k (k := Sum.inr "turn") (v := .int t') h (by show 4 < sizeLine; rw [sizeLine_eq]; omega)
  rw [put_turn] at this; exact this
end
/-- the barn at b: its lists are frozen -/
def BarnR (b : Addr) (B H : Hp) : Prop := ∃ (d t : Int) (p q : Addr) (bl ds : List Int), H b = some (.dK (barnK d t p q)) ∧ B p = some (.lst (bl.map V.int)) ∧ B q = some (.lst (ds.map V.int)) ∧ 0 < bl.length ∧ bl.length ≤ 100 ∧ ds.length = 8
def Zb (b : Addr) : Res := ⟨fun a => a = b, BarnR b, fun ⟨d, t, p, q, bl, ds, h1, h2, h3, r⟩ s e => ⟨d, t, p, q, bl, ds, (e b rfl).trans h1, s _ _ h2, s _ _ h3, r⟩⟩
theorem barn_chg {b : Addr} {B H : Hp} (w : Wf (Zb b) B H) {d t : Int} {p q : Addr} {bl ds : List Int} (h2 : B p = some (.lst (bl.map V.int))) (h3 : B q = some (.lst (ds.map V.int))) (r : 0 < bl.length ∧ bl.length ≤ 100 ∧ ds.length = 8) :
    Ext (Zb b) B H B (upd H b (.dK (barnK d t p q))) ∧ Wf (Zb b) B (upd H b (.dK (barnK d t p q))) := by
  have bb : B b = none := w.tb b rfl
  refine ⟨⟨Sub.refl _, fun a o e n => by rw [upd_ne n]; exact e, fun a h _ => h⟩, ⟨fun a o e => ?_, ⟨d, t, p, q, bl, ds, upd_same, h2, h3, r⟩, w.tb, fun a ta => ?_⟩⟩
  · rw [upd_ne (by rintro rfl; rw [bb] at e; cases e)]; exact w.bh a o e
  · have : a = b := ta
    subst this
    rw [upd_same]; simp
theorem mod_nat (i m : Int) (h : 0 < m) : ∃ r : Nat, i % m = (r : Int) ∧ (r : Int) < m := by
  have h1 := Int.emod_nonneg i (Int.ne_of_gt h)
  have h2 := Int.emod_lt_of_pos i h
  exact ⟨(i % m).toNat, by omega, by omega⟩
section
variable {P : Program} {w : World} {K : PySem.W.Frag} {mg : Str → Option Value} {base : Heap}
theorem sc__law_bale : FnScope ["barn", "many", "turn", "bale"] ["barn", "many"] (defScope s__law_bale) := ⟨rfl, rfl, rfl, by decide +kernel, rfl, by decide +kernel, by decide +kernel⟩
theorem bn__law_bale {K : PySem.W.Frag} {f : Addr} {fd : FuncData} (F : FnP K "_law_bale" "_law_bale" s__law_bale [] f fd) : Binds K fd ["barn", "many"] [] := FunD.bindsN F fun _ _ _ _ _ _ us hl => match us, hl with | [_, _], _ => rfl
theorem ok__law_bale {b : Addr} {f : Addr} {fd : FuncData} (T : Txt mg) (F : FnP K "_law_bale" "_law_bale" s__law_bale [] f fd) : FnOk P w K mg base CX0 1 f fd ["barn", "many"] (DSp K (Zb b) (sp__law_bale b)) := by
  refine F.ok sc__law_bale (fun vs H Q E h => ?_) (fun cdv A outer s H vs Q E hr h => ?_)
  · obtain ⟨B, xs, wf, sv, m, rfl, _⟩ := h
    rw [← sv.length]; rfl
  · obtain ⟨B, xs, wf, sv, m, rfl, hm, h⟩ := h
    cases sv with
    | @cons _ v0 _ _ s0 sv =>
    cases sv with
    | @cons _ v1 _ _ s1 sv =>
    cases sv
    cases s0
    cases s1
    obtain ⟨d, t, p, q, bl, ds, hb, hp, hq, hl⟩ := id wf.r
    have hu1 := hr.units1
    have nd := sc__law_bale.nd
    refine ⟨_, PSs.nox (pss_cons (ps_set (i := 2) nd rfl (Or.inl rfl) (pe_op op_add (pe_dget hu1 (pv 0) pe_str (fun _ _ => rfl)) pe_int))
      (pss_cons (ps_dput hu1 (pv 0) pe_str (pv 2) rfl)
      (pss_cons (ps_set (i := 3) nd rfl (Or.inl rfl) (pe_ix ix_list (pe_dget hu1 (pv 0) pe_str (fun _ _ => rfl)) (pe_op op_mod (pe_callTy call_int1 rfl T.int (by decide +kernel) (pa_cons (pv 2) pa_nil)) (pe_callB call_len_seq rfl T.len PySem.boot_len (pa_cons (pe_dget hu1 (pv 0) pe_str (fun _ _ => rfl)) pa_nil))) (fun _ _ => rfl)))
      (pss_cons (ps_dput hu1 (pv 0) pe_str (pe_op op_mod (pe_op op_add (pe_op op_add (pe_op op_add (pe_op op_mul (pe_callTy call_int1 rfl T.int (by decide +kernel) (pa_cons (pe_dget hu1 (pv 0) pe_str (fun _ _ => rfl)) pa_nil)) pe_int) (pv 3)) (pe_op op_mul (pv 2) pe_int)) pe_int) pe_int) rfl)
      (pss_one (ps_ret (pe_op op_mod (pe_callTy call_int1 rfl T.int (by decide +kernel) (pa_cons (pe_op op_fdiv (pe_dget hu1 (pv 0) pe_str (fun _ _ => rfl)) pe_int) pa_nil)) (pv 1)))))))), ?_⟩
    have hp' : H p = some (.lst (bl.map V.int)) := wf.bh _ _ hp
    have npb : p ≠ b := by rintro rfl; rw [hb] at hp'; cases hp'
    refine ⟨_, rfl, b, _, rfl, dg_turn hb, _, _, rfl, rfl, ?_⟩
    refine ⟨_, rfl, _, rfl, b, _, rfl, dp_turn (t + 1) hb, ?_⟩
    have hb1 : (upd H b (.dK (barnK d (t + 1) p q))) b = some (.dK (barnK d (t + 1) p q)) := upd_same
    have hp1 : (upd H b (.dK (barnK d (t + 1) p q))) p = some (.lst (bl.map V.int)) := by rw [upd_ne npb]; exact hp'
    have hlen : 0 < ((bl.map V.int).length : Int) := by rw [List.length_map]; omega
    obtain ⟨n, en, hn⟩ := mod_nat (t + 1) ((bl.map V.int).length : Int) hlen
    have hn' : n < (bl.map V.int).length := by omega
    have hnl : n < bl.length := by simpa using hn'
    refine ⟨_, rfl, b, _, rfl, dg_bales hb1, _, rfl, .inl ⟨_, rfl, ?_⟩⟩
    refine ⟨_, rfl, b, _, rfl, dg_bales hb1, p, _, rfl, .inl (SqL.of hp1), ?_⟩
    refine ⟨_, _, rfl, rfl, hlen, p, bl.map V.int, _, .int bl[n], rfl, rfl, SqL.of hp1, ?_, ?_⟩
    · rw [en, DL.atI_nat hn']
      simp [hnl]
    refine ⟨_, rfl, b, _, rfl, dg_dust hb1, .inl ⟨_, rfl, ?_⟩⟩
    refine ⟨_, _, rfl, rfl, .inr ⟨by decide, by decide⟩, ?_⟩
    refine ⟨_, rfl, _, _, rfl, rfl, ?_⟩
    refine ⟨_, rfl, _, _, rfl, rfl, .inr ⟨by decide, by decide⟩, ?_⟩
    refine ⟨_, _, rfl, rfl, _, _, rfl, rfl, _, _, rfl, rfl, (by show (0 : Int) < 2305843009213693951; decide), ?_⟩
    refine ⟨_, rfl, b, _, rfl, dp_dust _ hb1, ?_⟩
    refine ⟨_, rfl, b, _, rfl, dg_dust upd_same, _, _, rfl, rfl, ⟨by decide, by decide⟩, .inl ⟨_, rfl, ?_⟩⟩
    refine ⟨_, rfl, _, _, rfl, rfl, hm, ?_⟩
    obtain ⟨r, er, hr'⟩ := mod_nat (((d * 742938285742938289 + bl[n] + (t + 1) * 314606869 + 79) % 2305843009213693951) / 131231) m hm
    show Q (.int ((d * 742938285742938289 + bl[n] + (t + 1) * 314606869 + 79) % 2305843009213693951 / 131231 % m)) _
    rw [er]
    obtain ⟨e1, w1⟩ := barn_chg (d := d) (t := t + 1) wf hp hq hl
    obtain ⟨e2, w2⟩ := barn_chg (d := (d * 742938285742938289 + bl[n] + (t + 1) * 314606869 + 79) % 2305843009213693951) (t := t + 1) w1 hp hq hl
    exact h r hr' _ B _ (e1.trans wf w1 e2) w2 (.int _)
theorem sc__law_door : FnScope ["barn", "place", "many", "door"] ["barn", "place", "many"] (defScope s__law_door) := ⟨rfl, rfl, rfl, by decide +kernel, rfl, by decide +kernel, by decide +kernel⟩
theorem bn__law_door {K : PySem.W.Frag} {f : Addr} {fd : FuncData} (F : FnP K "_law_door" "_law_door" s__law_door [] f fd) : Binds K fd ["barn", "place", "many"] [] := FunD.bindsN F fun _ _ _ _ _ _ us hl => match us, hl with | [_, _, _], _ => rfl
theorem ok__law_door {b : Addr} {f fB : Addr} {fd fdB : FuncData} (T : Txt mg) (F : FnP K "_law_door" "_law_door" s__law_door [] f fd) (FB : FnP K "_law_bale" "_law_bale" s__law_bale [] fB fdB) (mgB : mg "_law_bale" = some (.ref fB)) : FnOk P w K mg base CX0 2 f fd ["barn", "place", "many"] (DSp K (Zb b) (sp__law_door b)) := by
  have GB : FnOk P w K mg base CX0 1 fB fdB ["barn", "many"] (DSp K (Zb b) (sp__law_bale b)) := ok__law_bale T FB
  have bB := bn__law_bale FB
  refine F.ok sc__law_door (fun vs H Q E h => ?_) (fun cdv A outer s H vs Q E hr h => ?_)
  · obtain ⟨B, xs, wf, sv, i, m, rfl, _⟩ := h
    rw [← sv.length]; rfl
  · obtain ⟨B, xs, wf, sv, i, m, rfl, hi0, hi8, hm, h⟩ := h
    cases sv with
    | @cons _ v0 _ _ s0 sv =>
    cases sv with
    | @cons _ v1 _ _ s1 sv =>
    cases sv with
    | @cons _ v2 _ _ s2 sv =>
    cases sv
    cases s0
    cases s1
    cases s2
    obtain ⟨d, t, p, q, bl, ds, hb, hp, hq, hl⟩ := id wf.r
    have hu1 := hr.units1
    have nd := sc__law_door.nd
    refine ⟨_, PSs.nox (pss_cons (ps_set (i := 3) nd rfl (Or.inl rfl) (pe_callTy call_int1 rfl T.int (by decide +kernel) (pa_cons (pe_ix ix_list (pe_dget hu1 (pv 0) pe_str (fun _ _ => rfl)) (pv 1) (fun _ _ => rfl)) pa_nil)))
      (pss_cons (ps_if (pt_cmpR op_gt (pe_op op_mod (pv 3) pe_int) pe_int (nomark _)) (pss_one (ps_ret (pe_call GB hr rfl mgB FB.kp bB .nil pass0 (pa_cons (pv 0) (pa_cons (pv 2) pa_nil))))) pss_nil)
      (pss_one (ps_ret (pe_ix ix_list (pe_lst (pa_cons pe_int (pa_cons (pe_op op_sub (pv 2) pe_int) (pa_cons (pe_op op_mod (pe_op op_fdiv (pv 3) pe_int) (pv 2)) pa_nil)))) (pe_op op_mod (pv 3) pe_int) (fun _ _ => rfl)))))), ?_⟩
    have hq' : H q = some (.lst (ds.map V.int)) := wf.bh _ _ hq
    obtain ⟨n, en⟩ : ∃ n : Nat, i = (n : Int) := ⟨i.toNat, by omega⟩
    have hn' : n < (ds.map V.int).length := by rw [List.length_map]; omega
    have hnl : n < ds.length := by simpa using hn'
    refine ⟨_, rfl, b, _, rfl, dg_doors hb, _, rfl, q, ds.map V.int, _, .int ds[n], rfl, rfl, SqL.of hq', ?_, .inl ⟨_, rfl, ?_⟩⟩
    · rw [en, DL.atI_nat hn']
      simp [hnl]
    refine ⟨_, rfl, _, _, rfl, rfl, (by show (0 : Int) < 9; decide), _, _, rfl, rfl, _, rfl, ?_⟩
    cases z : decide ((2 : Int) < ds[n] % 9) with
    | true =>
      refine iteT ?_
      refine ⟨_, rfl, _, rfl, ?_⟩
      exact ⟨B, [.o (.ref b), .d (.int m)], wf, .cons rfl (.cons (.int m) .nil), m, rfl, hm, fun r hr' => h r hr'⟩
    | false =>
      refine iteF ?_
      obtain ⟨r, er, hr'⟩ := mod_nat (ds[n] / 9) m hm
      obtain ⟨k, ek, hk⟩ := mod_nat ds[n] 9 (by decide)
      have hk3 : k = 0 ∨ k = 1 ∨ k = 2 := by
        have := of_decide_eq_false z
        rw [ek] at this
        omega
      refine ⟨_, rfl, _, _, rfl, rfl, _, rfl, _, _, rfl, rfl, ⟨by decide, by decide⟩, _, rfl, _, _, rfl, rfl, hm, (by show 3 ≤ sizeLine; rw [sizeLine_eq]; omega), fun l hl0 => ?_⟩
      have hup := ext_up (Z := Zb b) wf (H' := upd H l (.lst [.int 0, .int (m - 1), .int (ds[n] / 9 % m)])) fun a o e => by rw [upd_ne (ne_of_none e hl0)]; exact e
      have fin : ∀ x : Nat, (x : Int) < m → Q (.int x) (upd H l (.lst [.int 0, .int (m - 1), .int (ds[n] / 9 % m)])) := fun x hx => h x hx _ B _ hup.1 hup.2 (.int _)
      refine ⟨_, rfl, _, _, rfl, rfl, (by show (0 : Int) < 9; decide), ?_⟩
      show rIxL K (.ref l) (.int (ds[n] % 9)) (upd H l (.lst [.int 0, .int (m - 1), .int (ds[n] / 9 % m)])) Q
      rw [ek]
      rcases hk3 with rfl | rfl | rfl
      · exact ⟨l, [.int 0, .int (m - 1), .int (ds[n] / 9 % m)], _, .int 0, rfl, rfl, SqL.of upd_same, q_at0, fin 0 hm⟩
      · refine ⟨l, [.int 0, .int (m - 1), .int (ds[n] / 9 % m)], _, .int (m - 1), rfl, rfl, SqL.of upd_same, q_at1, ?_⟩
        have e1 : m - 1 = (((m - 1).toNat : Nat) : Int) := by omega
        rw [e1]
        rw [e1] at fin
        exact fin _ (by omega)
      · refine ⟨l, [.int 0, .int (m - 1), .int (ds[n] / 9 % m)], _, .int (ds[n] / 9 % m), rfl, rfl, SqL.of upd_same, q_at2, ?_⟩
        rw [er]
        rw [er] at fin
        exact fin r hr'
end
end K85

set_option maxRecDepth 100000
set_option maxHeartbeats 2000000
namespace K85
open PySem L2 DL
def spBarn (K : PySem.W.Frag) : Sp := fun vs H Q _ => ∃ (a : Addr) (ns : List Int), vs = [.ref a] ∧ SqL K H a (ns.map V.int) ∧ ns.length ≤ 63 ∧
  ∀ (b p q : Addr) (H' : Hp) (d t : Int) (bl ds : List Int), H b = none → Sub H H' → H' b = some (.dK (barnK d t p q)) → H' p = some (.lst (bl.map V.int)) → H' q = some (.lst (ds.map V.int)) → (0 < bl.length ∧ bl.length ≤ 100 ∧ ds.length = 8) → Q (.ref b) H'
theorem yes_turn {σ : L2.St} {H : Hp} {A B : Hp → Prop} (h : A H) : tYes σ H (fun b H3 => if b = true then A H3 else B H3) := by
  show if true = true then A H else B H
  rw [if_pos rfl]
  exact h
theorem cutV_ints (ns : List Int) (lo hi : Option Int) : ∃ ms : List Int, cutV (ns.map V.int) lo hi = ms.map V.int ∧ ms.length ≤ ns.length := by
  refine ⟨(ns.drop (HT.sIx (ns.map V.int).length 0 lo)).take (HT.sIx (ns.map V.int).length (ns.map V.int).length hi - HT.sIx (ns.map V.int).length 0 lo), ?_, ?_⟩
  · unfold cutV
    rw [List.map_take, List.map_drop]
  · rw [List.length_take, List.length_drop]; omega
section
variable {P : Program} {w : World} {K : PySem.W.Frag} {mg : Str → Option Value} {base : Heap}
theorem sc__law_barn : FnScope ["script", "bales", "dust", "bale", "doors", "at", "cell"] ["script"] (defScope s__law_barn) := ⟨rfl, rfl, rfl, by decide +kernel, rfl, by decide +kernel, by decide +kernel⟩
theorem bn__law_barn {K : PySem.W.Frag} {f : Addr} {fd : FuncData} (F : FnP K "_law_barn" "_law_barn" s__law_barn [] f fd) : Binds K fd ["script"] [] := FunD.bindsN F fun _ _ _ _ _ _ us hl => match us, hl with | [_], _ => rfl
theorem ok__law_barn {f : Addr} {fd : FuncData} (T : Txt mg) (F : FnP K "_law_barn" "_law_barn" s__law_barn [] f fd) : FnOk P w K mg base CX0 1 f fd ["script"] (spBarn K) := by
  refine F.ok sc__law_barn (fun vs H Q E h => ?_) (fun cdv A outer s H vs Q E hr h => ?_)
  · obtain ⟨a, ns, rfl, _⟩ := h
    rfl
  · obtain ⟨a, ns, rfl, hS, hns, hQ⟩ := h
    have hu1 := hr.units1
    have nd := sc__law_barn.nd
    refine ⟨_, PSs.nox (pss_cons (ps_set (i := 1) nd rfl (Or.inl rfl) (pe_op op_cat (pe_lc (own := [("cell", 6)]) (g := gName 6) (tt := tYes) rfl nd (pi_list (pe_slice sl_list (pv 0) po_none (po_some pe_int))) (blkOk_by (N := ["script", "bales", "dust", "bale", "doors", "at", "cell"]) (sc := defScope s__law_barn) (by decide +kernel)) (fun _ _ _ _ _ => pg_name (i := 6) nd rfl (Or.inl rfl)) (fun _ _ _ _ _ => pts_nil)
          (fun _ _ _ _ _ => pe_op op_mod (pe_callB call_abs rfl T.abs (by decide +kernel) (pa_cons (pe_callTy call_int1 rfl T.int (by decide +kernel) (pa_cons (pv 6) pa_nil)) pa_nil)) (pe_op op_shl pe_int pe_int))) (pe_lst (pa_cons pe_int pa_nil))))
      (pss_cons (ps_set (i := 2) nd rfl (Or.inl rfl) pe_int)
      (pss_cons (ps_for PassesOwn.never rfl (pi_list (pv 1)) (pg_name (i := 3) nd rfl (Or.inl rfl)) (pss_one (ps_set (i := 2) nd rfl (Or.inl rfl) (pe_op op_mod (pe_op op_add (pe_op op_add (pe_op op_mul (pv 2) pe_int) (pv 3)) pe_int) pe_int))))
      (pss_cons (ps_set (i := 4) nd rfl (Or.inl rfl) (pe_lst pa_nil))
      (pss_cons (ps_for PassesOwn.never rfl (pi_range1 rfl T.range (pa_cons pe_int pa_nil)) (pg_name (i := 5) nd rfl (Or.inl rfl)) (pss_cons (ps_set (i := 2) nd rfl (Or.inl rfl) (pe_op op_mod (pe_op op_add (pe_op op_add (pe_op op_mul (pv 2) pe_int) (pe_op op_mul pe_int (pv 5))) pe_int) pe_int))
        (pss_one (ps_expr (pe_bm PySem.F.plainAttrs_list PySem.F.slot_list_append PySem.F.type_list_append mt_append (pv 4) (pa_cons (pe_op op_fdiv (pv 2) pe_int) pa_nil))))))
      (pss_one (ps_ret (pe_disp (pps_cons pe_str (pv 2) (pps_cons pe_str pe_int (pps_cons pe_str (pv 1) (pps_cons pe_str (pv 4) pps_nil)))) rfl rfl (by intro z; cases z) (by decide))))))))), ?_⟩
    have hsz : sizeLine = 16777216 := sizeLine_eq
    -- script[:64]
    obtain ⟨ms, ems, hms⟩ := cutV_ints ns none (some 64)
    refine ⟨_, rfl, 64, rfl, a, ns.map V.int, rfl, hS, fun p0 np0 => ?_⟩
    refine ⟨p0, rfl, ⟨_, SqL.of upd_same⟩, ?_⟩
    rw [ems]
    intro D hD
    have nDp : D ≠ p0 := by rintro rfl; rw [upd_same] at hD; cases hD
    have hD0 : H D = none := by rw [upd_ne nDp] at hD; exact hD
    refine lc_list (K := K) (a := p0) (xs := ms.map V.int) (g := gName 6) (tt := tYes) (vs := [6]) (σ := [some (.ref a), none, none, none, none, none, none]) (D := D) (fun i H' => ∃ acc : List Int, H' D = some (.lst (acc.map V.int)) ∧ acc.length = i ∧ ∀ b o, (upd H p0 (.lst (ms.map V.int))) b = some o → H' b = some o)
      ⟨[], upd_same, rfl, fun b o e => by rw [upd_ne (ne_of_none e hD)]; exact e⟩ (fun i H' _ ⟨_, _, _, k⟩ => SqL.of (k p0 _ upd_same)) ?_ ?_
    · rintro i y H' hi ⟨acc, hacc, hl, keep⟩
      have hil : i < (ms.map V.int).length := (List.getElem?_eq_some_iff.mp hi).1
      rw [List.length_map] at hil
      rw [List.getElem?_map, List.getElem?_eq_getElem hil] at hi
      cases hi
      refine ⟨rfl, ?_⟩
      refine yes_turn ?_
      refine ⟨_, rfl, .inl ⟨_, rfl, _, rfl, _, _, rfl, rfl, ⟨by decide, by decide, by decide⟩, _, _, rfl, rfl, ?_, ?_⟩⟩
      · show (0 : Int) < 1 * 2 ^ (2000 : Int).toNat
        rw [Int.one_mul]
        exact Int.pow_pos (by decide)
      · refine ⟨_, hacc, (by rw [List.length_map]; omega), acc ++ [(if ms[i] < 0 then -ms[i] else ms[i]) % (1 * 2 ^ (2000 : Int).toNat)], ?_, by simp [hl], fun b o e => ?_⟩
        · rw [upd_same, List.map_append]; rfl
        · rw [upd_ne (ne_of_none e hD)]; exact keep b o e
    · rintro H' ⟨acc, hacc, hl, keep⟩
      rw [List.length_map] at hl
      refine ⟨(by show 1 ≤ sizeLine; omega), fun l hl0 => ?_⟩
      have nDl : D ≠ l := ne_of_none hacc hl0
      refine ⟨D, l, acc.map V.int, [.int 151], rfl, rfl, by rw [upd_ne nDl]; exact hacc, upd_same, (by rw [List.length_map]; show acc.length + 1 ≤ sizeLine; omega), fun p2 hp2 => ?_⟩
      have ebl : acc.map V.int ++ [.int 151] = (acc ++ [151]).map V.int := by simp
      rw [ebl]
      generalize hH5 : (upd (upd H' l (.lst [.int 151])) p2 (.lst ((acc ++ [151]).map V.int))) = H5
      have h5p : H5 p2 = some (.lst ((acc ++ [151]).map V.int)) := by rw [← hH5, upd_same]
      have h5 : Sub H H5 := fun b o e => by
        have n1 : (upd H p0 (.lst (ms.map V.int))) b = some o := by rw [upd_ne (ne_of_none e np0)]; exact e
        have n2 := keep b o n1
        have n3 : (upd H' l (.lst [.int 151])) b = some o := by rw [upd_ne (ne_of_none n2 hl0)]; exact n2
        rw [← hH5, upd_ne (ne_of_none n3 hp2)]; exact n3
      -- for bale in bales
      refine ⟨_, rfl, p2, rfl, ⟨_, SqL.of h5p⟩, for_list (K := K) (a := p2) (xs := (acc ++ [151]).map V.int) (fun i σ H' => H' = H5 ∧ ∃ (dust : Int) (s3 : Option V), σ = [some (.ref a), some (.ref p2), some (.int dust), s3, none, none, none])
        ⟨rfl, 109, none, rfl⟩ (fun i σ H' _ ⟨e, _⟩ => by rw [e]; exact SqL.of h5p) ?_ ?_⟩
      · rintro i y σ H'' hi ⟨rfl, dust, s3, rfl⟩
        have hil : i < ((acc ++ [151]).map V.int).length := (List.getElem?_eq_some_iff.mp hi).1
        rw [List.length_map] at hil
        rw [List.getElem?_map, List.getElem?_eq_getElem hil] at hi
        cases hi
        refine ⟨_, rfl, _, _, rfl, rfl, .inr ⟨by decide, by decide⟩, _, rfl, _, _, rfl, rfl, _, _, rfl, rfl, _, _, rfl, rfl, (by show (0 : Int) < 2147483629; decide), ?_⟩
        exact ⟨rfl, _, _, rfl⟩
      · rintro σ H'' ⟨rfl, dust, s3, rfl⟩
        refine ⟨(by show 0 ≤ sizeLine; omega), fun q hq => ?_⟩
        have n2q : p2 ≠ q := ne_of_none h5p hq
        refine ⟨8, rfl, by decide, by decide, for_range (lo := 0) (n := 8) (fun i σ H' => ∃ (dust : Int) (s5 : Option V) (dl : List Int), σ = [some (.ref a), some (.ref p2), some (.int dust), s3, some (.ref q), s5, none] ∧ H' q = some (.lst (dl.map V.int)) ∧ dl.length = i ∧ ∀ b o, H'' b = some o → H' b = some o)
          ⟨dust, none, [], rfl, upd_same, rfl, fun b o e => by rw [upd_ne (ne_of_none e hq)]; exact e⟩ ?_ ?_⟩
        · rintro i σ H3 hi ⟨dust, s5, dl, rfl, hdl, hlen, keep3⟩
          refine ⟨_, rfl, _, _, rfl, rfl, .inr ⟨by decide, by decide⟩, _, rfl, _, _, rfl, rfl, .inl ⟨by decide, by decide⟩, _, _, rfl, rfl, _, _, rfl, rfl, _, _, rfl, rfl, (by show (0 : Int) < 2147483629; decide), ?_⟩
          refine ⟨_, rfl, .inl ⟨rfl, _, SqL.of hdl⟩, _, rfl, _, _, rfl, rfl, ⟨by decide, by decide⟩, q, _, _, rfl, rfl, hdl, (by rw [List.length_map]; omega), ?_⟩
          refine ⟨_, _, dl ++ [(dust * 16807 + 53 * (0 + (i : Int)) + 4) % 2147483629 / 107], rfl, ?_, by simp [hlen], fun b o e => ?_⟩
          · rw [upd_same, List.map_append]; rfl
          · rw [upd_ne (ne_of_none e hq)]; exact keep3 b o e
        · rintro σ H3 ⟨dust, s5, dl, rfl, hdl, hlen, keep3⟩
          intro b hb
          refine ⟨_, rfl, _, rfl, _, rfl, upd_same, barnK dust 0 p2 q, rfl, (by show 4 ≤ 15; decide), ?_⟩
          have em : mergeK [] (barnK dust 0 p2 q) = barnK dust 0 p2 q := by kernel_rfl
          rw [em]
          have s3' : Sub H H3 := fun c o e => keep3 c o (h5 c o e)
          have nb2 : p2 ≠ b := ne_of_none (keep3 p2 _ h5p) hb
          have nbq : q ≠ b := ne_of_none hdl hb
          refine hQ b p2 q _ dust 0 (acc ++ [151]) dl ?_ (fun c o e => ?_) upd_same (by rw [upd_ne nb2, upd_ne nb2]; exact keep3 p2 _ h5p) (by rw [upd_ne nbq, upd_ne nbq]; exact hdl) ⟨by simp, by simp; omega, hlen⟩
          · cases z : H b with
            | none => rfl
            | some o => rw [s3' b o z] at hb; cases hb
          · have := s3' c o e
            have nc : c ≠ b := ne_of_none this hb
            rw [upd_ne nc, upd_ne nc]; exact this
end
end K85

set_option maxRecDepth 100000
set_option maxHeartbeats 2000000
namespace K85
open PySem L2 DL
/-! ### the law -/
theorem pssZ {X : Cx} {sts : List Stmt} (K : PySem.W.Frag) (W : Addr → SW) (hK : X.K = K) (h : ∀ (b : Addr) (B0 H0 : Hp), DSs X ⟨Zb b, B0, H0⟩ sts (W b)) : PSs X sts (fun D σ H => ∃ (b : Addr) (B0 H0 : Hp), sD K ⟨Zb b, B0, H0⟩ (W b) D σ H) := by
  subst hK
  exact ⟨fun pins s σ H D I ⟨b, B0, H0, q⟩ => (h b B0 H0).ps.run pins s σ H D I q⟩
def w_law (b : Addr) : SW := (wSeq (wIf (wNotT (wTru (wCall sp__law_by_hand []))) (wRet (wC (.bool false))) wNil)
    (wSeq (wFor (wRng1 (wC (.int 2))) (.nm 2)
      (wSeq (wSet 3 (wCall (sp__law_app b) [(wVar 1)]))
      (wSeq (wSet 4 (wCall sp__law_trimmed [(wVar 3)]))
      (wIf (wOrT (wNotT (wTru (wCall sp__law_windows_right [(wVar 3), (wVar 4)]))) (wOrT (wNotT (wTru (wCall sp__law_asks_right [(wVar 3), (wVar 4)]))) (wNotT (wTru (wCall (sp__law_sights_right b) [(wVar 1), (wVar 3), (wVar 4)]))))) (wRet (wC (.bool false))) wNil))))
    (wRet (wC (.bool true)))))
theorem fin_law (b : Addr) (D : DEnds) (s0 : Option DV) (h : D.rt (.d (.bool true))) : w_law b D [s0, some (.o (.ref b)), none, none, none] := by
  unfold w_law
  rw [q_seq]
  simp only [q_if, q_notT, q_tru, q_call, q_args0]
  refine ⟨trivial, rfl, trivial, ?_⟩
  simp only [q_truV, q_truB, Bool.not_true, q_nil]
  rw [sq_nx, q_seq]
  have one : ∀ (D : DEnds) (z : Int) (s3 s4 : Option DV), (∀ s3 s4, D.nx [s0, some (.o (.ref b)), some (.d (.int z)), s3, s4]) →
      (wSeq (wSet 3 (wCall (sp__law_app b) [(wVar 1)]))
      (wSeq (wSet 4 (wCall sp__law_trimmed [(wVar 3)]))
      (wIf (wOrT (wNotT (wTru (wCall sp__law_windows_right [(wVar 3), (wVar 4)]))) (wOrT (wNotT (wTru (wCall sp__law_asks_right [(wVar 3), (wVar 4)]))) (wNotT (wTru (wCall (sp__law_sights_right b) [(wVar 1), (wVar 3), (wVar 4)]))))) (wRet (wC (.bool false))) wNil))) D [s0, some (.o (.ref b)), some (.d (.int z)), s3, s4] := by
    intro D z s3 s4 h
    rw [q_seq, q_set]
    simp only [q_call, q_args1, q_args0, q_var, q_slot1]
    refine ⟨by simp, rfl, fun A G F hT => ⟨trivial, trivial, ?_⟩⟩
    rw [sq_nx]
    show wSeq _ _ _ [s0, some (.o (.ref b)), some (.d (.int z)), some (.d (eApp A)), s4]
    rw [q_seq, q_set]
    simp only [q_call, q_args1, q_args0, q_var, q_slot3]
    refine ⟨by simp, A, rfl, ⟨by have := G.rols; omega, fun r hr => ⟨by have := G.wins r hr; omega, G.ok r hr⟩⟩, trivial, trivial, ?_⟩
    rw [sq_nx]
    show wIf _ _ _ _ [s0, some (.o (.ref b)), some (.d (.int z)), some (.d (eApp A)), some (.d (eApp (trimA A)))]
    simp only [q_if, q_orT, q_notT, q_tru, q_call, q_args1, q_args0, q_var, q_slot1, q_slot3, q_slot4]
    refine ⟨by simp, A, rfl, G, trivial, ?_⟩
    simp only [q_truV, q_truB, Bool.not_true]
    refine ⟨by simp, A, rfl, G, trivial, ?_⟩
    simp only [q_truV, q_truB, Bool.not_true]
    refine ⟨by simp, A, rfl, G, F, hT, trivial, ?_⟩
    simp only [q_truV, q_truB, Bool.not_true, q_nil]
    exact h _ _
  rw [q_for]
  simp only [q_rng1, q_C, q_onD]
  refine ⟨⟨by decide, by decide⟩, ?_⟩
  have er : rngD 0 (2 : Int).toNat = [.int 0, .int 1] := by simp [rngD, List.range_succ]
  rw [er, q_loop1, q_bindN]
  refine one _ 0 _ _ fun s3 s4 => ?_
  rw [lp_nx, q_loop1, q_bindN]
  refine one _ 1 _ _ fun s3 s4 => ?_
  rw [lp_nx, q_loop0, sq_nx]
  exact h
def spLaw (K : PySem.W.Frag) : Sp := fun vs H Q _ => ∃ (a : Addr) (ns : List Int), vs = [.ref a] ∧ SqL K H a (ns.map V.int) ∧ ns.length ≤ 63 ∧ ∀ H', Q (.bl true) H'
section
variable {P : Program} {w : World} {K : PySem.W.Frag} {mg : Str → Option Value} {base : Heap}
theorem sc_law : FnScope ["script", "barn", "turn", "app", "less"] ["script"] (defScope s_law) := ⟨rfl, rfl, rfl, by decide +kernel, rfl, by decide +kernel, by decide +kernel⟩
theorem ok_law {f fB : Addr} {fd fdB : FuncData} (T : Txt mg) (F : FnP K "law" "law" s_law [] f fd) (FB : FnP K "_law_barn" "_law_barn" s__law_barn [] fB fdB) (mgB : mg "_law_barn" = some (.ref fB))
    (c__law_by_hand : ∀ Z, Cal P w K mg base Z 15 "_law_by_hand" sp__law_by_hand) (c__law_app : ∀ b, Cal P w K mg base (Zb b) 6 "_law_app" (sp__law_app b)) (c__law_trimmed : ∀ Z, Cal P w K mg base Z 4 "_law_trimmed" sp__law_trimmed)
    (c__law_windows_right : ∀ Z, Cal P w K mg base Z 15 "_law_windows_right" sp__law_windows_right) (c__law_asks_right : ∀ Z, Cal P w K mg base Z 15 "_law_asks_right" sp__law_asks_right) (c__law_sights_right : ∀ b, Cal P w K mg base (Zb b) 15 "_law_sights_right" (sp__law_sights_right b)) :
    FnOk P w K mg base CX0 17 f fd ["script"] (spLaw K) := by
  have GB : FnOk P w K mg base CX0 1 fB fdB ["script"] (spBarn K) := ok__law_barn T FB
  have bB := bn__law_barn FB
  refine F.ok sc_law (fun vs H Q E h => ?_) (fun cdv A outer s H vs Q E hr h => ?_)
  · obtain ⟨a, ns, rfl, _⟩ := h
    rfl
  · obtain ⟨a, ns, rfl, hS, hns, hQ⟩ := h
    have nd := sc_law.nd
    have hu := hr.units
    have hr1 : Room 1 (A.deeper (PyProof.Rows.envOfC "law" (defScope s_law) s.heap.objs.size f cdv)) := hr.mono (by decide)
    refine ⟨_, PSs.nox (pss_cons (ps_set (i := 1) nd rfl (Or.inl rfl) (pe_call GB hr1 rfl mgB FB.kp bB .nil pass0 (pa_cons (pv 0) pa_nil)))
      (pss_one (ps_try_thru0 (pssZ K w_law rfl fun b _ _ => (ds_cons (ds_if (dt_not (dt_tru (de_call0 (c__law_by_hand _) hr rfl))) (ds_one (ds_ret de_bl)) ds_nil)
    (ds_cons (ds_for (di_rng1 rfl T.range de_int) (dg_nm 2 nd)
      (ds_cons (ds_set 3 nd (de_call (c__law_app b) hr rfl (da_cons (de_var 1) da_nil)))
      (ds_cons (ds_set 4 nd (de_call (c__law_trimmed _) hr rfl (da_cons (de_var 3) da_nil)))
      (ds_one (ds_if (DW.dt (dw_or (dt_not (dt_tru (de_call (c__law_windows_right _) hr rfl (da_cons (de_var 3) (da_cons (de_var 4) da_nil))))) (dw_or (dt_not (dt_tru (de_call (c__law_asks_right _) hr rfl (da_cons (de_var 3) (da_cons (de_var 4) da_nil))))) (dw_or1 (dt_not (dt_tru (de_call (c__law_sights_right b) hr rfl (da_cons (de_var 1) (da_cons (de_var 3) (da_cons (de_var 4) da_nil)))))))))) (ds_one (ds_ret de_bl)) ds_nil)))))
    (ds_one (ds_ret de_bl)))))))), ?_⟩
    refine ⟨_, rfl, a, ns, rfl, hS, hns, fun b p q H' d t bl ds hb sub h1 h2 h3 hl => ?_⟩
    have np : p ≠ b := by rintro rfl; rw [h1] at h2; cases h2
    have nq : q ≠ b := by rintro rfl; rw [h1] at h3; cases h3
    have wf : Wf (Zb b) (hide H' b) H' := ⟨hide_sub _ _, ⟨d, t, p, q, bl, ds, h1, by rw [hide_ne np]; exact h2, by rw [hide_ne nq]; exact h3, hl⟩, fun x e => by have : x = b := e; subst this; exact hide_at _ _, fun x e => by have : x = b := e; subst this; rw [h1]; simp⟩
    refine ⟨b, hide H' b, H', [none, some (.o (.ref b)), none, none, none], hide H' b, ⟨wf, wf, Ext.refl _ _ _, rfl, fun j z hz => ?_, fun j k xs ys p hz => ?_⟩, ?_⟩
    · match j, hz with
      | 1, hz =>
        simp at hz
        subst hz
        exact ⟨_, rfl, rfl⟩
      | 0, hz => simp at hz
      | 2, hz => simp at hz
      | 3, hz => simp at hz
      | 4, hz => simp at hz
      | j + 5, hz => simp at hz
    · match j, hz with
      | 1, hz => simp at hz
      | 0, hz => simp at hz
      | 2, hz => simp at hz
      | 3, hz => simp at hz
      | 4, hz => simp at hz
      | j + 5, hz => simp at hz
    · refine fin_law b _ _ ?_
      intro v B' H3 e w sv
      cases sv
      exact hQ H3
end
end K85

set_option maxRecDepth 100000
set_option maxHeartbeats 4000000
namespace K85
open PySem L2 DL
section
variable {P : Program} {w : World} {K : PySem.W.Frag} {mg : Str → Option Value} {base : Heap} {C_WayMaker : Addr}
theorem sc_named : FnScope ["kind", "rows", "name", "row"] ["kind", "rows", "name"] (defScope s_named) := ⟨rfl, rfl, rfl, by decide +kernel, rfl, by decide +kernel, by decide +kernel⟩
theorem bn_named {K : PySem.W.Frag} {f : Addr} {fd : FuncData} (F : FnP K "named" "named" s_named [] f fd) : Binds K fd ["kind", "rows", "name"] [] := FunD.bindsN F fun _ _ _ _ _ _ us hl => match us, hl with | [_, _, _], _ => rfl
theorem ok_named {Z : Res} {f : Addr} {fd : FuncData} (T : Txt mg) (F : FnP K "named" "named" s_named [] f fd) : FnOk P w K mg base CX0 1 f fd ["kind", "rows", "name"] (DSp K Z sp_named) := by
  refine okF F sc_named spV_mono (by intro xs Q h; first | exact h.1 ▸ rfl | (obtain ⟨a, rfl, _⟩ := h; rfl) | (obtain ⟨a, b, rfl, _⟩ := h; rfl) | (obtain ⟨a, b, c, rfl, _⟩ := h; rfl) | (obtain ⟨rfl, _⟩ := h; rfl)) ⟨w_named, fun cdv A outer s H E B0 H0 hr => ?d, fin_named⟩
  have hu := hr.units
  have nd := sc_named.nd
  exact (ds_cons (ds_for (di_seq (de_var 1)) (dg_nm 3 nd)
      (ds_one (ds_if (dt_cmp (o_eq hu) m_eq (de_ix (de_var 3) de_int) (de_var 2)) (ds_one (ds_ret (de_var 3))) ds_nil)))
    (ds_one ds_never))
theorem sc_table_of : FnScope ["app", "table"] ["app", "table"] (defScope s_table_of) := ⟨rfl, rfl, rfl, by decide +kernel, rfl, by decide +kernel, by decide +kernel⟩
theorem bn_table_of {K : PySem.W.Frag} {f : Addr} {fd : FuncData} (F : FnP K "table_of" "table_of" s_table_of [] f fd) : Binds K fd ["app", "table"] [] := FunD.bindsN F fun _ _ _ _ _ _ us hl => match us, hl with | [_, _], _ => rfl
theorem ok_table_of {Z : Res} {f : Addr} {fd : FuncData} (T : Txt mg) (F : FnP K "table_of" "table_of" s_table_of [] f fd) (c_named : Cal P w K mg base Z 1 "named" sp_named) : FnOk P w K mg base CX0 2 f fd ["app", "table"] (DSp K Z sp_table_of) := by
  refine okF F sc_table_of spV_mono (by intro xs Q h; first | exact h.1 ▸ rfl | (obtain ⟨a, rfl, _⟩ := h; rfl) | (obtain ⟨a, b, rfl, _⟩ := h; rfl) | (obtain ⟨a, b, c, rfl, _⟩ := h; rfl) | (obtain ⟨rfl, _⟩ := h; rfl)) ⟨w_table_of, fun cdv A outer s H E B0 H0 hr => ?d, fin_table_of⟩
  have hu := hr.units
  have nd := sc_table_of.nd
  exact (ds_one (ds_ret (de_call c_named hr rfl (da_cons de_str (da_cons (de_ix (de_var 0) de_int) (da_cons (de_var 1) da_nil))))))
theorem sc_role_of : FnScope ["app", "role"] ["app", "role"] (defScope s_role_of) := ⟨rfl, rfl, rfl, by decide +kernel, rfl, by decide +kernel, by decide +kernel⟩
theorem bn_role_of {K : PySem.W.Frag} {f : Addr} {fd : FuncData} (F : FnP K "role_of" "role_of" s_role_of [] f fd) : Binds K fd ["app", "role"] [] := FunD.bindsN F fun _ _ _ _ _ _ us hl => match us, hl with | [_, _], _ => rfl
theorem ok_role_of {Z : Res} {f : Addr} {fd : FuncData} (T : Txt mg) (F : FnP K "role_of" "role_of" s_role_of [] f fd) (c_named : Cal P w K mg base Z 1 "named" sp_named) : FnOk P w K mg base CX0 2 f fd ["app", "role"] (DSp K Z sp_role_of) := by
  refine okF F sc_role_of spV_mono (by intro xs Q h; first | exact h.1 ▸ rfl | (obtain ⟨a, rfl, _⟩ := h; rfl) | (obtain ⟨a, b, rfl, _⟩ := h; rfl) | (obtain ⟨a, b, c, rfl, _⟩ := h; rfl) | (obtain ⟨rfl, _⟩ := h; rfl)) ⟨w_role_of, fun cdv A outer s H E B0 H0 hr => ?d, fin_role_of⟩
  have hu := hr.units
  have nd := sc_role_of.nd
  exact (ds_one (ds_ret (de_call c_named hr rfl (da_cons de_str (da_cons (de_ix (de_var 0) de_int) (da_cons (de_var 1) da_nil))))))
theorem sc_ask_of : FnScope ["app", "ask"] ["app", "ask"] (defScope s_ask_of) := ⟨rfl, rfl, rfl, by decide +kernel, rfl, by decide +kernel, by decide +kernel⟩
theorem bn_ask_of {K : PySem.W.Frag} {f : Addr} {fd : FuncData} (F : FnP K "ask_of" "ask_of" s_ask_of [] f fd) : Binds K fd ["app", "ask"] [] := FunD.bindsN F fun _ _ _ _ _ _ us hl => match us, hl with | [_, _], _ => rfl
theorem ok_ask_of {Z : Res} {f : Addr} {fd : FuncData} (T : Txt mg) (F : FnP K "ask_of" "ask_of" s_ask_of [] f fd) (c_named : Cal P w K mg base Z 1 "named" sp_named) : FnOk P w K mg base CX0 2 f fd ["app", "ask"] (DSp K Z sp_ask_of) := by
  refine okF F sc_ask_of spV_mono (by intro xs Q h; first | exact h.1 ▸ rfl | (obtain ⟨a, rfl, _⟩ := h; rfl) | (obtain ⟨a, b, rfl, _⟩ := h; rfl) | (obtain ⟨a, b, c, rfl, _⟩ := h; rfl) | (obtain ⟨rfl, _⟩ := h; rfl)) ⟨w_ask_of, fun cdv A outer s H E B0 H0 hr => ?d, fin_ask_of⟩
  have hu := hr.units
  have nd := sc_ask_of.nd
  exact (ds_one (ds_ret (de_call c_named hr rfl (da_cons de_str (da_cons (de_ix (de_var 0) de_int) (da_cons (de_var 1) da_nil))))))
theorem sc_window_of : FnScope ["app", "role", "table", "windows", "window"] ["app", "role", "table"] (defScope s_window_of) := ⟨rfl, rfl, rfl, by decide +kernel, rfl, by decide +kernel, by decide +kernel⟩
theorem bn_window_of {K : PySem.W.Frag} {f : Addr} {fd : FuncData} (F : FnP K "window_of" "window_of" s_window_of [] f fd) : Binds K fd ["app", "role", "table"] [] := FunD.bindsN F fun _ _ _ _ _ _ us hl => match us, hl with | [_, _, _], _ => rfl
theorem ok_window_of {Z : Res} {f : Addr} {fd : FuncData} (T : Txt mg) (F : FnP K "window_of" "window_of" s_window_of [] f fd) (c_role_of : Cal P w K mg base Z 2 "role_of" sp_role_of) (c_table_of : Cal P w K mg base Z 2 "table_of" sp_table_of) : FnOk P w K mg base CX0 3 f fd ["app", "role", "table"] (DSp K Z sp_window_of) := by
  refine okF F sc_window_of spV_mono (by intro xs Q h; first | exact h.1 ▸ rfl | (obtain ⟨a, rfl, _⟩ := h; rfl) | (obtain ⟨a, b, rfl, _⟩ := h; rfl) | (obtain ⟨a, b, c, rfl, _⟩ := h; rfl) | (obtain ⟨rfl, _⟩ := h; rfl)) ⟨w_window_of, fun cdv A outer s H E B0 H0 hr => ?d, fin_window_of⟩
  have hu := hr.units
  have nd := sc_window_of.nd
  exact (ds_cons (ds_set 3 nd (de_ix (de_call c_role_of hr rfl (da_cons (de_var 0) (da_cons (de_var 1) da_nil))) de_int))
    (ds_cons (ds_expr (de_call c_table_of hr rfl (da_cons (de_var 0) (da_cons (de_var 2) da_nil))))
    (ds_cons (ds_for (di_seq (de_var 3)) (dg_nm 4 nd)
      (ds_one (ds_if (dt_cmp (o_eq hu) m_eq (de_ix (de_var 4) de_int) (de_var 2)) (ds_one (ds_ret (de_var 4))) ds_nil)))
    (ds_one (ds_ret de_non)))))
theorem sc_table_place : FnScope ["app", "table", "row"] ["app", "table"] (defScope s_table_place) := ⟨rfl, rfl, rfl, by decide +kernel, rfl, by decide +kernel, by decide +kernel⟩
theorem bn_table_place {K : PySem.W.Frag} {f : Addr} {fd : FuncData} (F : FnP K "table_place" "table_place" s_table_place [] f fd) : Binds K fd ["app", "table"] [] := FunD.bindsN F fun _ _ _ _ _ _ us hl => match us, hl with | [_, _], _ => rfl
theorem ok_table_place {Z : Res} {f : Addr} {fd : FuncData} (T : Txt mg) (F : FnP K "table_place" "table_place" s_table_place [] f fd) : FnOk P w K mg base CX0 1 f fd ["app", "table"] (DSp K Z sp_table_place) := by
  refine okF F sc_table_place spV_mono (by intro xs Q h; first | exact h.1 ▸ rfl | (obtain ⟨a, rfl, _⟩ := h; rfl) | (obtain ⟨a, b, rfl, _⟩ := h; rfl) | (obtain ⟨a, b, c, rfl, _⟩ := h; rfl) | (obtain ⟨rfl, _⟩ := h; rfl)) ⟨w_table_place, fun cdv A outer s H E B0 H0 hr => ?d, fin_table_place⟩
  have hu := hr.units
  have nd := sc_table_place.nd
  exact (ds_one (ds_ret (de_index hr.units65 (de_lc [("row", 2)] nd (die_seq (de_ix (de_var 0) de_int)) (by kernel_rfl) (fun _ _ _ _ _ => (dg_nm 2 nd)) (fun _ _ _ _ _ => dts_nil) (fun _ _ _ _ _ => (de_ix (de_var 2) de_int))) (de_var 1))))
theorem sc_ask_tables : FnScope ["ask"] ["ask"] (defScope s_ask_tables) := ⟨rfl, rfl, rfl, by decide +kernel, rfl, by decide +kernel, by decide +kernel⟩
theorem bn_ask_tables {K : PySem.W.Frag} {f : Addr} {fd : FuncData} (F : FnP K "ask_tables" "ask_tables" s_ask_tables [] f fd) : Binds K fd ["ask"] [] := FunD.bindsN F fun _ _ _ _ _ _ us hl => match us, hl with | [_], _ => rfl
theorem ok_ask_tables {Z : Res} {f : Addr} {fd : FuncData} (T : Txt mg) (F : FnP K "ask_tables" "ask_tables" s_ask_tables [] f fd) : FnOk P w K mg base CX0 1 f fd ["ask"] (DSp K Z sp_ask_tables) := by
  refine okF F sc_ask_tables spV_mono (by intro xs Q h; first | exact h.1 ▸ rfl | (obtain ⟨a, rfl, _⟩ := h; rfl) | (obtain ⟨a, b, rfl, _⟩ := h; rfl) | (obtain ⟨a, b, c, rfl, _⟩ := h; rfl) | (obtain ⟨rfl, _⟩ := h; rfl)) ⟨w_ask_tables, fun cdv A outer s H E B0 H0 hr => ?d, fin_ask_tables⟩
  have hu := hr.units
  have nd := sc_ask_tables.nd
  exact (ds_one (ds_ret (de_op o_add m_add (de_ix (de_var 0) de_int) (de_if (dt_isN (de_ix (de_var 0) de_int)) (de_tup da_nil) (de_tup (da_cons (de_ix (de_var 0) de_int) da_nil))))))
theorem sc_told_fields : FnScope ["told"] ["told"] (defScope s_told_fields) := ⟨rfl, rfl, rfl, by decide +kernel, rfl, by decide +kernel, by decide +kernel⟩
theorem bn_told_fields {K : PySem.W.Frag} {f : Addr} {fd : FuncData} (F : FnP K "told_fields" "told_fields" s_told_fields [] f fd) : Binds K fd ["told"] [] := FunD.bindsN F fun _ _ _ _ _ _ us hl => match us, hl with | [_], _ => rfl
theorem ok_told_fields {Z : Res} {f : Addr} {fd : FuncData} (T : Txt mg) (F : FnP K "told_fields" "told_fields" s_told_fields [] f fd) : FnOk P w K mg base CX0 1 f fd ["told"] (DSp K Z sp_told_fields) := by
  refine okF F sc_told_fields spV_mono (by intro xs Q h; first | exact h.1 ▸ rfl | (obtain ⟨a, rfl, _⟩ := h; rfl) | (obtain ⟨a, b, rfl, _⟩ := h; rfl) | (obtain ⟨a, b, c, rfl, _⟩ := h; rfl) | (obtain ⟨rfl, _⟩ := h; rfl)) ⟨w_told_fields, fun cdv A outer s H E B0 H0 hr => ?d, fin_told_fields⟩
  have hu := hr.units
  have nd := sc_told_fields.nd
  exact (ds_cons (ds_if (dt_cmp (o_eq hu) m_eq (de_ix (de_var 0) de_int) de_str) (ds_one (ds_ret (de_tup (da_cons (de_ix (de_var 0) de_int) da_nil)))) ds_nil)
    (ds_one (ds_ret (de_if (dt_cmp (o_eq hu) m_eq (de_ix (de_var 0) de_int) de_str) (de_ix (de_var 0) de_int) (de_tup da_nil)))))
theorem sc_plain_literals : FnScope ["ask", "at", "literal"] ["ask"] (defScope s_plain_literals) := ⟨rfl, rfl, rfl, by decide +kernel, rfl, by decide +kernel, by decide +kernel⟩
theorem bn_plain_literals {K : PySem.W.Frag} {f : Addr} {fd : FuncData} (F : FnP K "plain_literals" "plain_literals" s_plain_literals [] f fd) : Binds K fd ["ask"] [] := FunD.bindsN F fun _ _ _ _ _ _ us hl => match us, hl with | [_], _ => rfl
theorem ok_plain_literals {Z : Res} {f : Addr} {fd : FuncData} (T : Txt mg) (F : FnP K "plain_literals" "plain_literals" s_plain_literals [] f fd) (c_literal_parts : Cal P w K mg base Z 1 "literal_parts" sp_literal_parts) : FnOk P w K mg base CX0 2 f fd ["ask"] (DSp K Z sp_plain_literals) := by
  refine okF F sc_plain_literals spV_mono (by intro xs Q h; first | exact h.1 ▸ rfl | (obtain ⟨a, rfl, _⟩ := h; rfl) | (obtain ⟨a, b, rfl, _⟩ := h; rfl) | (obtain ⟨a, b, c, rfl, _⟩ := h; rfl) | (obtain ⟨rfl, _⟩ := h; rfl)) ⟨w_plain_literals, fun cdv A outer s H E B0 H0 hr => ?d, fin_plain_literals⟩
  have hu := hr.units
  have nd := sc_plain_literals.nd
  exact (ds_one (ds_ret (de_lc [("at", 1), ("literal", 2)] nd (DI.e (di_enum rfl T.enumerate (de_ix (de_var 0) de_int))) (by kernel_rfl) (fun _ _ _ _ _ => (dg_tp (dgs_cons 1 nd (dgs_cons 2 nd dgs_nil)))) (fun _ _ _ _ _ => (dts_one (dt_cmp (o_nin hu) m_nin (de_blt b_len (mono_one m_len) rfl T.len (by decide +kernel) (da_cons (de_ix (de_var 0) de_int) da_nil)) (de_call c_literal_parts hr rfl (da_cons (de_var 2) da_nil))))) (fun _ _ _ _ _ => (de_var 1)))))
theorem sc_beside_literals : FnScope ["ask", "at", "literal"] ["ask"] (defScope s_beside_literals) := ⟨rfl, rfl, rfl, by decide +kernel, rfl, by decide +kernel, by decide +kernel⟩
theorem bn_beside_literals {K : PySem.W.Frag} {f : Addr} {fd : FuncData} (F : FnP K "beside_literals" "beside_literals" s_beside_literals [] f fd) : Binds K fd ["ask"] [] := FunD.bindsN F fun _ _ _ _ _ _ us hl => match us, hl with | [_], _ => rfl
theorem ok_beside_literals {Z : Res} {f : Addr} {fd : FuncData} (T : Txt mg) (F : FnP K "beside_literals" "beside_literals" s_beside_literals [] f fd) (c_literal_parts : Cal P w K mg base Z 1 "literal_parts" sp_literal_parts) : FnOk P w K mg base CX0 2 f fd ["ask"] (DSp K Z sp_beside_literals) := by
  refine okF F sc_beside_literals spV_mono (by intro xs Q h; first | exact h.1 ▸ rfl | (obtain ⟨a, rfl, _⟩ := h; rfl) | (obtain ⟨a, b, rfl, _⟩ := h; rfl) | (obtain ⟨a, b, c, rfl, _⟩ := h; rfl) | (obtain ⟨rfl, _⟩ := h; rfl)) ⟨w_beside_literals, fun cdv A outer s H E B0 H0 hr => ?d, fin_beside_literals⟩
  have hu := hr.units
  have nd := sc_beside_literals.nd
  exact (ds_one (ds_ret (de_lc [("at", 1), ("literal", 2)] nd (DI.e (di_enum rfl T.enumerate (de_ix (de_var 0) de_int))) (by kernel_rfl) (fun _ _ _ _ _ => (dg_tp (dgs_cons 1 nd (dgs_cons 2 nd dgs_nil)))) (fun _ _ _ _ _ => (dts_one (dt_cmp (o_in hu) m_in (de_blt b_len (mono_one m_len) rfl T.len (by decide +kernel) (da_cons (de_ix (de_var 0) de_int) da_nil)) (de_call c_literal_parts hr rfl (da_cons (de_var 2) da_nil))))) (fun _ _ _ _ _ => (de_var 1)))))
end
end K85

set_option maxRecDepth 100000
set_option maxHeartbeats 4000000
namespace K85
open PySem L2 DL
section
variable {P : Program} {w : World} {K : PySem.W.Frag} {mg : Str → Option Value} {base : Heap} {C_WayMaker : Addr}
theorem sc_opposite : FnScope ["fact"] ["fact"] (defScope s_opposite) := ⟨rfl, rfl, rfl, by decide +kernel, rfl, by decide +kernel, by decide +kernel⟩
theorem bn_opposite {K : PySem.W.Frag} {f : Addr} {fd : FuncData} (F : FnP K "opposite" "opposite" s_opposite [] f fd) : Binds K fd ["fact"] [] := FunD.bindsN F fun _ _ _ _ _ _ us hl => match us, hl with | [_], _ => rfl
theorem ok_opposite {Z : Res} {f : Addr} {fd : FuncData} (T : Txt mg) (F : FnP K "opposite" "opposite" s_opposite [] f fd) (t_OPPOSITES : WTab K w mg "OPPOSITES" tab_OPPOSITES) : FnOk P w K mg base CX0 1 f fd ["fact"] (DSp K Z sp_opposite) := by
  refine okF F sc_opposite spV_mono (by intro xs Q h; first | exact h.1 ▸ rfl | (obtain ⟨a, rfl, _⟩ := h; rfl) | (obtain ⟨a, b, rfl, _⟩ := h; rfl) | (obtain ⟨a, b, c, rfl, _⟩ := h; rfl) | (obtain ⟨rfl, _⟩ := h; rfl)) ⟨w_opposite, fun cdv A outer s H E B0 H0 hr => ?d, fin_opposite⟩
  have hu := hr.units
  have nd := sc_opposite.nd
  exact (ds_one (ds_ret (de_tup (da_cons (de_wix t_OPPOSITES rfl (de_ix (de_var 0) de_int)) (da_cons (de_ix (de_var 0) de_int) (da_cons (de_ix (de_var 0) de_int) da_nil))))))
theorem sc_look_fact : FnScope ["look", "letter", "badge", "sign", "field", "term"] ["look", "letter", "badge"] (defScope s_look_fact) := ⟨rfl, rfl, rfl, by decide +kernel, rfl, by decide +kernel, by decide +kernel⟩
theorem ok_look_fact {Z : Res} {f : Addr} {fd : FuncData} (T : Txt mg) (F : FnP K "look_fact" "look_fact" s_look_fact [.str "v"] f fd) : FnOk P w K mg base CX0 1 f fd ["look", "letter", "badge"] (DSp K Z sp0_look_fact) := by
  refine okF F sc_look_fact spV_mono (by intro xs Q h; first | exact h.1 ▸ rfl | (obtain ⟨a, rfl, _⟩ := h; rfl) | (obtain ⟨a, b, rfl, _⟩ := h; rfl) | (obtain ⟨a, b, c, rfl, _⟩ := h; rfl) | (obtain ⟨rfl, _⟩ := h; rfl)) ⟨w_look_fact, fun cdv A outer s H E B0 H0 hr => ?d, fin_look_fact⟩
  have hu := hr.units
  have nd := sc_look_fact.nd
  exact (ds_cons (ds_unp (dg_tp (dgs_cons 3 nd (dgs_cons 4 nd (dgs_cons 5 nd dgs_nil)))) (de_var 0))
    (ds_cons (ds_if (dt_cmp (o_eq hu) m_eq (de_ix (de_var 5) de_int) de_str) (ds_one (ds_ret (de_tup (da_cons (de_var 3) (da_cons (de_tup (da_cons (de_var 1) (da_cons (de_var 4) da_nil))) (da_cons (de_tup (da_cons (de_var 1) (da_cons (de_ix (de_var 5) de_int) da_nil))) da_nil)))))) ds_nil)
    (ds_cons (ds_if (dt_cmp (o_eq hu) m_eq (de_ix (de_var 5) de_int) de_str) (ds_one (ds_ret (de_tup (da_cons (de_var 3) (da_cons (de_tup (da_cons (de_var 1) (da_cons (de_var 4) da_nil))) (da_cons (de_tup (da_cons (de_var 2) (da_cons (de_ix (de_var 5) de_int) da_nil))) da_nil)))))) ds_nil)
    (ds_one (ds_ret (de_tup (da_cons (de_var 3) (da_cons (de_tup (da_cons (de_var 1) (da_cons (de_var 4) da_nil))) (da_cons (de_if (dt_cmp (o_eq hu) m_eq (de_ix (de_var 5) de_int) de_str) (de_tup (da_cons de_str (da_cons (de_ix (de_var 5) de_int) da_nil))) (de_var 5)) da_nil)))))))))
theorem sc_both_lots : FnScope ["one", "other", "first", "second"] ["one", "other"] (defScope s_both_lots) := ⟨rfl, rfl, rfl, by decide +kernel, rfl, by decide +kernel, by decide +kernel⟩
theorem bn_both_lots {K : PySem.W.Frag} {f : Addr} {fd : FuncData} (F : FnP K "both_lots" "both_lots" s_both_lots [] f fd) : Binds K fd ["one", "other"] [] := FunD.bindsN F fun _ _ _ _ _ _ us hl => match us, hl with | [_, _], _ => rfl
theorem ok_both_lots {Z : Res} {f : Addr} {fd : FuncData} (T : Txt mg) (F : FnP K "both_lots" "both_lots" s_both_lots [] f fd) : FnOk P w K mg base CX0 1 f fd ["one", "other"] (DSp K Z sp_both_lots) := by
  refine okF F sc_both_lots spV_mono (by intro xs Q h; first | exact h.1 ▸ rfl | (obtain ⟨a, rfl, _⟩ := h; rfl) | (obtain ⟨a, b, rfl, _⟩ := h; rfl) | (obtain ⟨a, b, c, rfl, _⟩ := h; rfl) | (obtain ⟨rfl, _⟩ := h; rfl)) ⟨w_both_lots, fun cdv A outer s H E B0 H0 hr => ?d, fin_both_lots⟩
  have hu := hr.units
  have nd := sc_both_lots.nd
  exact (ds_one (ds_ret (de_ty b_tuple (mono_one m_tup) rfl T.tuple (by decide +kernel) (da_cons (de_lc2 [("first", 2), ("second", 3)] [3] nd (die_seq (de_var 0)) (by kernel_rfl) (fun _ _ _ _ _ => (dg_nm 2 nd)) (fun _ _ _ _ _ => dts_nil) (fun _ _ _ _ _ => (di_seq (de_var 1))) (fun _ _ _ _ _ => (dg_nm 3 nd)) (fun _ _ _ _ _ => dts_nil) (fun _ _ _ _ _ => (de_op o_add m_add (de_var 2) (de_var 3)))) da_nil))))
theorem sc_all_lots : FnScope ["rows", "told", "lots"] ["rows"] (defScope s_all_lots) := ⟨rfl, rfl, rfl, by decide +kernel, rfl, by decide +kernel, by decide +kernel⟩
theorem bn_all_lots {K : PySem.W.Frag} {f : Addr} {fd : FuncData} (F : FnP K "all_lots" "all_lots" s_all_lots [] f fd) : Binds K fd ["rows"] [] := FunD.bindsN F fun _ _ _ _ _ _ us hl => match us, hl with | [_], _ => rfl
theorem ok_all_lots {Z : Res} {f : Addr} {fd : FuncData} (T : Txt mg) (F : FnP K "all_lots" "all_lots" s_all_lots [] f fd) (c_both_lots : Cal P w K mg base Z 1 "both_lots" sp_both_lots) : FnOk P w K mg base CX0 2 f fd ["rows"] (DSp K Z sp_all_lots) := by
  refine okF F sc_all_lots spV_mono (by intro xs Q h; first | exact h.1 ▸ rfl | (obtain ⟨a, rfl, _⟩ := h; rfl) | (obtain ⟨a, b, rfl, _⟩ := h; rfl) | (obtain ⟨a, b, c, rfl, _⟩ := h; rfl) | (obtain ⟨rfl, _⟩ := h; rfl)) ⟨w_all_lots, fun cdv A outer s H E B0 H0 hr => ?d, fin_all_lots⟩
  have hu := hr.units
  have nd := sc_all_lots.nd
  exact (ds_cons (ds_set 1 nd (de_tup (da_cons (de_tup da_nil) da_nil)))
    (ds_cons (ds_for (di_seq (de_var 0)) (dg_nm 2 nd)
      (ds_one (ds_set 1 nd (de_call c_both_lots hr rfl (da_cons (de_var 1) (da_cons (de_var 2) da_nil))))))
    (ds_one (ds_ret (de_var 1)))))
theorem sc_seen_lots : FnScope ["app", "role", "table", "letter", "window", "lot", "look"] ["app", "role", "table", "letter"] (defScope s_seen_lots) := ⟨rfl, rfl, rfl, by decide +kernel, rfl, by decide +kernel, by decide +kernel⟩
theorem bn_seen_lots {K : PySem.W.Frag} {f : Addr} {fd : FuncData} (F : FnP K "seen_lots" "seen_lots" s_seen_lots [] f fd) : Binds K fd ["app", "role", "table", "letter"] [] := FunD.bindsN F fun _ _ _ _ _ _ us hl => match us, hl with | [_, _, _, _], _ => rfl
theorem ok_seen_lots {Z : Res} {f : Addr} {fd : FuncData} (T : Txt mg) (F : FnP K "seen_lots" "seen_lots" s_seen_lots [] f fd) (c_look_fact : Cal P w K mg base Z 1 "look_fact" sp_look_fact) (c_window_of : Cal P w K mg base Z 3 "window_of" sp_window_of) : FnOk P w K mg base CX0 4 f fd ["app", "role", "table", "letter"] (DSp K Z sp_seen_lots) := by
  refine okF F sc_seen_lots spV_mono (by intro xs Q h; first | exact h.1 ▸ rfl | (obtain ⟨a, rfl, _⟩ := h; rfl) | (obtain ⟨a, b, rfl, _⟩ := h; rfl) | (obtain ⟨a, b, c, rfl, _⟩ := h; rfl) | (obtain ⟨rfl, _⟩ := h; rfl)) ⟨w_seen_lots, fun cdv A outer s H E B0 H0 hr => ?d, fin_seen_lots⟩
  have hu := hr.units
  have nd := sc_seen_lots.nd
  exact (ds_cons (ds_set 4 nd (de_call c_window_of hr rfl (da_cons (de_var 0) (da_cons (de_var 1) (da_cons (de_var 2) da_nil)))))
    (ds_cons (ds_if (dt_isN (de_var 4)) (ds_one (ds_ret (de_tup da_nil))) ds_nil)
    (ds_one (ds_ret (de_ty b_tuple (mono_one m_tup) rfl T.tuple (by decide +kernel) (da_cons (de_lc [("lot", 5)] nd (die_seq (de_ix (de_var 4) de_int)) (by kernel_rfl) (fun _ _ _ _ _ => (dg_nm 5 nd)) (fun _ _ _ _ _ => dts_nil) (fun _ _ _ _ _ => (de_ty b_tuple (mono_one m_tup) rfl T.tuple (by decide +kernel) (da_cons (de_lc [("look", 6)] nd (die_seq (de_var 5)) (by kernel_rfl) (fun _ _ _ _ _ => (dg_nm 6 nd)) (fun _ _ _ _ _ => dts_nil) (fun _ _ _ _ _ => (de_call c_look_fact hr rfl (da_cons (de_var 6) (da_cons (de_var 3) da_nil))))) da_nil)))) da_nil))))))
theorem sc_unseen_lots : FnScope ["app", "role", "table", "letter", "rows", "lot", "fact"] ["app", "role", "table", "letter"] (defScope s_unseen_lots) := ⟨rfl, rfl, rfl, by decide +kernel, rfl, by decide +kernel, by decide +kernel⟩
theorem bn_unseen_lots {K : PySem.W.Frag} {f : Addr} {fd : FuncData} (F : FnP K "unseen_lots" "unseen_lots" s_unseen_lots [] f fd) : Binds K fd ["app", "role", "table", "letter"] [] := FunD.bindsN F fun _ _ _ _ _ _ us hl => match us, hl with | [_, _, _, _], _ => rfl
theorem ok_unseen_lots {Z : Res} {f : Addr} {fd : FuncData} (T : Txt mg) (F : FnP K "unseen_lots" "unseen_lots" s_unseen_lots [] f fd) (c_all_lots : Cal P w K mg base Z 2 "all_lots" sp_all_lots) (c_opposite : Cal P w K mg base Z 1 "opposite" sp_opposite) (c_seen_lots : Cal P w K mg base Z 4 "seen_lots" sp_seen_lots) (c_window_of : Cal P w K mg base Z 3 "window_of" sp_window_of) : FnOk P w K mg base CX0 5 f fd ["app", "role", "table", "letter"] (DSp K Z sp_unseen_lots) := by
  refine okF F sc_unseen_lots spV_mono (by intro xs Q h; first | exact h.1 ▸ rfl | (obtain ⟨a, rfl, _⟩ := h; rfl) | (obtain ⟨a, b, rfl, _⟩ := h; rfl) | (obtain ⟨a, b, c, rfl, _⟩ := h; rfl) | (obtain ⟨rfl, _⟩ := h; rfl)) ⟨w_unseen_lots, fun cdv A outer s H E B0 H0 hr => ?d, fin_unseen_lots⟩
  have hu := hr.units
  have nd := sc_unseen_lots.nd
  exact (ds_cons (ds_if (dt_isN (de_call c_window_of hr rfl (da_cons (de_var 0) (da_cons (de_var 1) (da_cons (de_var 2) da_nil))))) (ds_one (ds_ret (de_tup (da_cons (de_tup da_nil) da_nil)))) ds_nil)
    (ds_cons (ds_own 4 nd da_nil)
    (ds_cons (ds_for (di_seq (de_call c_seen_lots hr rfl (da_cons (de_var 0) (da_cons (de_var 1) (da_cons (de_var 2) (da_cons (de_var 3) da_nil)))))) (dg_nm 5 nd)
      (ds_one (ds_app 4 (de_ty b_tuple (mono_one m_tup) rfl T.tuple (by decide +kernel) (da_cons (de_lc [("fact", 6)] nd (die_seq (de_var 5)) (by kernel_rfl) (fun _ _ _ _ _ => (dg_nm 6 nd)) (fun _ _ _ _ _ => dts_nil) (fun _ _ _ _ _ => (de_tup (da_cons (de_call c_opposite hr rfl (da_cons (de_var 6) da_nil)) da_nil)))) da_nil)))))
    (dss_frz 4 (ds_one (ds_ret (de_call c_all_lots hr rfl (da_cons (de_var 4) da_nil))))))))
theorem sc_some_holds : FnScope ["lots", "lot"] ["lots"] (defScope s_some_holds) := ⟨rfl, rfl, rfl, by decide +kernel, rfl, by decide +kernel, by decide +kernel⟩
theorem bn_some_holds {K : PySem.W.Frag} {f : Addr} {fd : FuncData} (F : FnP K "some_holds" "some_holds" s_some_holds [] f fd) : Binds K fd ["lots"] [] := FunD.bindsN F fun _ _ _ _ _ _ us hl => match us, hl with | [_], _ => rfl
theorem ok_some_holds {Z : Res} {f : Addr} {fd : FuncData} (T : Txt mg) (F : FnP K "some_holds" "some_holds" s_some_holds [] f fd) (c_can_hold : Cal P w K mg base Z 10 "can_hold" sp_can_hold) : FnOk P w K mg base CX0 11 f fd ["lots"] (DSp K Z sp_some_holds) := by
  refine okF F sc_some_holds spV_mono (by intro xs Q h; first | exact h.1 ▸ rfl | (obtain ⟨a, rfl, _⟩ := h; rfl) | (obtain ⟨a, b, rfl, _⟩ := h; rfl) | (obtain ⟨a, b, c, rfl, _⟩ := h; rfl) | (obtain ⟨rfl, _⟩ := h; rfl)) ⟨w_some_holds, fun cdv A outer s H E B0 H0 hr => ?d, fin_some_holds⟩
  have hu := hr.units
  have nd := sc_some_holds.nd
  exact (ds_cons (ds_for (di_seq (de_var 0)) (dg_nm 1 nd)
      (ds_one (ds_if (dt_tru (de_call c_can_hold hr rfl (da_cons (de_var 1) da_nil))) (ds_one (ds_ret de_bl)) ds_nil)))
    (ds_one (ds_ret de_bl)))
theorem sc_lot_facts : FnScope ["lot", "look"] ["lot"] (defScope s_lot_facts) := ⟨rfl, rfl, rfl, by decide +kernel, rfl, by decide +kernel, by decide +kernel⟩
theorem bn_lot_facts {K : PySem.W.Frag} {f : Addr} {fd : FuncData} (F : FnP K "lot_facts" "lot_facts" s_lot_facts [] f fd) : Binds K fd ["lot"] [] := FunD.bindsN F fun _ _ _ _ _ _ us hl => match us, hl with | [_], _ => rfl
theorem ok_lot_facts {Z : Res} {f : Addr} {fd : FuncData} (T : Txt mg) (F : FnP K "lot_facts" "lot_facts" s_lot_facts [] f fd) (c_look_fact : Cal P w K mg base Z 1 "look_fact" sp_look_fact) : FnOk P w K mg base CX0 2 f fd ["lot"] (DSp K Z sp_lot_facts) := by
  refine okF F sc_lot_facts spV_mono (by intro xs Q h; first | exact h.1 ▸ rfl | (obtain ⟨a, rfl, _⟩ := h; rfl) | (obtain ⟨a, b, rfl, _⟩ := h; rfl) | (obtain ⟨a, b, c, rfl, _⟩ := h; rfl) | (obtain ⟨rfl, _⟩ := h; rfl)) ⟨w_lot_facts, fun cdv A outer s H E B0 H0 hr => ?d, fin_lot_facts⟩
  have hu := hr.units
  have nd := sc_lot_facts.nd
  exact (ds_one (ds_ret (de_ty b_tuple (mono_one m_tup) rfl T.tuple (by decide +kernel) (da_cons (de_lc [("look", 1)] nd (die_seq (de_var 0)) (by kernel_rfl) (fun _ _ _ _ _ => (dg_nm 1 nd)) (fun _ _ _ _ _ => dts_nil) (fun _ _ _ _ _ => (de_call c_look_fact hr rfl (da_cons (de_var 1) (da_cons de_str da_nil))))) da_nil))))
theorem sc_is_idle : FnScope ["window", "lot"] ["window"] (defScope s_is_idle) := ⟨rfl, rfl, rfl, by decide +kernel, rfl, by decide +kernel, by decide +kernel⟩
theorem bn_is_idle {K : PySem.W.Frag} {f : Addr} {fd : FuncData} (F : FnP K "is_idle" "is_idle" s_is_idle [] f fd) : Binds K fd ["window"] [] := FunD.bindsN F fun _ _ _ _ _ _ us hl => match us, hl with | [_], _ => rfl
theorem ok_is_idle {Z : Res} {f : Addr} {fd : FuncData} (T : Txt mg) (F : FnP K "is_idle" "is_idle" s_is_idle [] f fd) (c_lot_facts : Cal P w K mg base Z 2 "lot_facts" sp_lot_facts) (c_some_holds : Cal P w K mg base Z 11 "some_holds" sp_some_holds) : FnOk P w K mg base CX0 12 f fd ["window"] (DSp K Z sp_is_idle) := by
  refine okF F sc_is_idle spV_mono (by intro xs Q h; first | exact h.1 ▸ rfl | (obtain ⟨a, rfl, _⟩ := h; rfl) | (obtain ⟨a, b, rfl, _⟩ := h; rfl) | (obtain ⟨a, b, c, rfl, _⟩ := h; rfl) | (obtain ⟨rfl, _⟩ := h; rfl)) ⟨w_is_idle, fun cdv A outer s H E B0 H0 hr => ?d, fin_is_idle⟩
  have hu := hr.units
  have nd := sc_is_idle.nd
  exact (ds_one (ds_ret (de_notT (de_call c_some_holds hr rfl (da_cons (de_lc [("lot", 1)] nd (die_seq (de_ix (de_var 0) de_int)) (by kernel_rfl) (fun _ _ _ _ _ => (dg_nm 1 nd)) (fun _ _ _ _ _ => dts_nil) (fun _ _ _ _ _ => (de_call c_lot_facts hr rfl (da_cons (de_var 1) da_nil)))) da_nil)))))
theorem sc_idle_windows : FnScope ["app", "role", "window"] ["app"] (defScope s_idle_windows) := ⟨rfl, rfl, rfl, by decide +kernel, rfl, by decide +kernel, by decide +kernel⟩
theorem bn_idle_windows {K : PySem.W.Frag} {f : Addr} {fd : FuncData} (F : FnP K "idle_windows" "idle_windows" s_idle_windows [] f fd) : Binds K fd ["app"] [] := FunD.bindsN F fun _ _ _ _ _ _ us hl => match us, hl with | [_], _ => rfl
theorem ok_idle_windows {Z : Res} {f : Addr} {fd : FuncData} (T : Txt mg) (F : FnP K "idle_windows" "idle_windows" s_idle_windows [] f fd) (c_is_idle : Cal P w K mg base Z 12 "is_idle" sp_is_idle) : FnOk P w K mg base CX0 13 f fd ["app"] (DSp K Z sp_idle_windows) := by
  refine okF F sc_idle_windows spV_mono (by intro xs Q h; first | exact h.1 ▸ rfl | (obtain ⟨a, rfl, _⟩ := h; rfl) | (obtain ⟨a, b, rfl, _⟩ := h; rfl) | (obtain ⟨a, b, c, rfl, _⟩ := h; rfl) | (obtain ⟨rfl, _⟩ := h; rfl)) ⟨w_idle_windows, fun cdv A outer s H E B0 H0 hr => ?d, fin_idle_windows⟩
  have hu := hr.units
  have nd := sc_idle_windows.nd
  exact (ds_one (ds_ret (de_ty b_tuple (mono_one m_tup) rfl T.tuple (by decide +kernel) (da_cons (de_blt (b_sorted hu) (mono_one m_sorted) rfl T.sorted (by decide +kernel) (da_cons (de_lc2 [("role", 1), ("window", 2)] [2] nd (die_seq (de_ix (de_var 0) de_int)) (by kernel_rfl) (fun _ _ _ _ _ => (dg_nm 1 nd)) (fun _ _ _ _ _ => dts_nil) (fun _ _ _ _ _ => (di_seq (de_ix (de_var 1) de_int))) (fun _ _ _ _ _ => (dg_nm 2 nd)) (fun _ _ _ _ _ => (dts_one (dt_tru (de_call c_is_idle hr rfl (da_cons (de_var 2) da_nil))))) (fun _ _ _ _ _ => (de_tup (da_cons (de_ix (de_var 1) de_int) (da_cons (de_ix (de_var 2) de_int) da_nil))))) da_nil)) da_nil))))
end
end K85

set_option maxRecDepth 100000
set_option maxHeartbeats 4000000
namespace K85
open PySem L2 DL
section
variable {P : Program} {w : World} {K : PySem.W.Frag} {mg : Str → Option Value} {base : Heap} {C_WayMaker : Addr}
theorem sc_lies_in : FnScope ["one", "other", "facts", "fact"] ["one", "other"] (defScope s_lies_in) := ⟨rfl, rfl, rfl, by decide +kernel, rfl, by decide +kernel, by decide +kernel⟩
theorem bn_lies_in {K : PySem.W.Frag} {f : Addr} {fd : FuncData} (F : FnP K "lies_in" "lies_in" s_lies_in [] f fd) : Binds K fd ["one", "other"] [] := FunD.bindsN F fun _ _ _ _ _ _ us hl => match us, hl with | [_, _], _ => rfl
theorem ok_lies_in {Z : Res} {f : Addr} {fd : FuncData} (T : Txt mg) (F : FnP K "lies_in" "lies_in" s_lies_in [] f fd) (c_can_hold : Cal P w K mg base Z 10 "can_hold" sp_can_hold) (c_lot_facts : Cal P w K mg base Z 2 "lot_facts" sp_lot_facts) (c_opposite : Cal P w K mg base Z 1 "opposite" sp_opposite) : FnOk P w K mg base CX0 11 f fd ["one", "other"] (DSp K Z sp_lies_in) := by
  refine okF F sc_lies_in spV_mono (by intro xs Q h; first | exact h.1 ▸ rfl | (obtain ⟨a, rfl, _⟩ := h; rfl) | (obtain ⟨a, b, rfl, _⟩ := h; rfl) | (obtain ⟨a, b, c, rfl, _⟩ := h; rfl) | (obtain ⟨rfl, _⟩ := h; rfl)) ⟨w_lies_in, fun cdv A outer s H E B0 H0 hr => ?d, fin_lies_in⟩
  have hu := hr.units
  have nd := sc_lies_in.nd
  exact (ds_cons (ds_set 2 nd (de_call c_lot_facts hr rfl (da_cons (de_var 0) da_nil)))
    (ds_one (ds_ret (de_notT (de_lc [("fact", 3)] nd (die_seq (de_call c_lot_facts hr rfl (da_cons (de_var 1) da_nil))) (by kernel_rfl) (fun _ _ _ _ _ => (dg_nm 3 nd)) (fun _ _ _ _ _ => (dts_one (dt_tru (de_call c_can_hold hr rfl (da_cons (de_op o_add m_add (de_var 2) (de_tup (da_cons (de_call c_opposite hr rfl (da_cons (de_var 3) da_nil)) da_nil))) da_nil))))) (fun _ _ _ _ _ => (de_var 3)))))))
theorem sc_spare_in : FnScope ["lots", "first", "second"] ["lots"] (defScope s_spare_in) := ⟨rfl, rfl, rfl, by decide +kernel, rfl, by decide +kernel, by decide +kernel⟩
theorem bn_spare_in {K : PySem.W.Frag} {f : Addr} {fd : FuncData} (F : FnP K "spare_in" "spare_in" s_spare_in [] f fd) : Binds K fd ["lots"] [] := FunD.bindsN F fun _ _ _ _ _ _ us hl => match us, hl with | [_], _ => rfl
theorem ok_spare_in {Z : Res} {f : Addr} {fd : FuncData} (T : Txt mg) (F : FnP K "spare_in" "spare_in" s_spare_in [] f fd) (c_lies_in : Cal P w K mg base Z 11 "lies_in" sp_lies_in) : FnOk P w K mg base CX0 12 f fd ["lots"] (DSp K Z sp_spare_in) := by
  refine okF F sc_spare_in spV_mono (by intro xs Q h; first | exact h.1 ▸ rfl | (obtain ⟨a, rfl, _⟩ := h; rfl) | (obtain ⟨a, b, rfl, _⟩ := h; rfl) | (obtain ⟨a, b, c, rfl, _⟩ := h; rfl) | (obtain ⟨rfl, _⟩ := h; rfl)) ⟨w_spare_in, fun cdv A outer s H E B0 H0 hr => ?d, fin_spare_in⟩
  have hu := hr.units
  have nd := sc_spare_in.nd
  exact (ds_cons (ds_if (dt_cmp o_lt m_lt (de_blt b_len (mono_one m_len) rfl T.len (by decide +kernel) (da_cons (de_var 0) da_nil)) de_int) (ds_one (ds_ret (de_tup da_nil))) ds_nil)
    (ds_cons (ds_par 1 2 nd (da_cons (de_call c_lies_in hr rfl (da_cons (de_ix (de_var 0) de_int) (da_cons (de_ix (de_var 0) de_int) da_nil))) (da_cons (de_call c_lies_in hr rfl (da_cons (de_ix (de_var 0) de_int) (da_cons (de_ix (de_var 0) de_int) da_nil))) da_nil)))
    (ds_cons (ds_if (dt_tru (de_var 2)) (ds_one (ds_ret (de_tup (da_cons de_int da_nil)))) ds_nil)
    (ds_one (ds_ret (de_if (dt_tru (de_var 1)) (de_tup (da_cons de_int da_nil)) (de_tup da_nil)))))))
theorem sc_spare_lots : FnScope ["app", "role", "table"] ["app", "role", "table"] (defScope s_spare_lots) := ⟨rfl, rfl, rfl, by decide +kernel, rfl, by decide +kernel, by decide +kernel⟩
theorem bn_spare_lots {K : PySem.W.Frag} {f : Addr} {fd : FuncData} (F : FnP K "spare_lots" "spare_lots" s_spare_lots [] f fd) : Binds K fd ["app", "role", "table"] [] := FunD.bindsN F fun _ _ _ _ _ _ us hl => match us, hl with | [_, _, _], _ => rfl
theorem ok_spare_lots {Z : Res} {f : Addr} {fd : FuncData} (T : Txt mg) (F : FnP K "spare_lots" "spare_lots" s_spare_lots [] f fd) (c_spare_in : Cal P w K mg base Z 12 "spare_in" sp_spare_in) (c_window_of : Cal P w K mg base Z 3 "window_of" sp_window_of) : FnOk P w K mg base CX0 13 f fd ["app", "role", "table"] (DSp K Z sp_spare_lots) := by
  refine okF F sc_spare_lots spV_mono (by intro xs Q h; first | exact h.1 ▸ rfl | (obtain ⟨a, rfl, _⟩ := h; rfl) | (obtain ⟨a, b, rfl, _⟩ := h; rfl) | (obtain ⟨a, b, c, rfl, _⟩ := h; rfl) | (obtain ⟨rfl, _⟩ := h; rfl)) ⟨w_spare_lots, fun cdv A outer s H E B0 H0 hr => ?d, fin_spare_lots⟩
  have hu := hr.units
  have nd := sc_spare_lots.nd
  exact (ds_one (ds_ret (de_call c_spare_in hr rfl (da_cons (de_ix (de_call c_window_of hr rfl (da_cons (de_var 0) (da_cons (de_var 1) (da_cons (de_var 2) da_nil)))) de_int) da_nil))))
theorem sc_trimmed_windows : FnScope ["role", "told", "table", "lots", "shown", "spare", "at", "lot"] ["role"] (defScope s_trimmed_windows) := ⟨rfl, rfl, rfl, by decide +kernel, rfl, by decide +kernel, by decide +kernel⟩
theorem bn_trimmed_windows {K : PySem.W.Frag} {f : Addr} {fd : FuncData} (F : FnP K "trimmed_windows" "trimmed_windows" s_trimmed_windows [] f fd) : Binds K fd ["role"] [] := FunD.bindsN F fun _ _ _ _ _ _ us hl => match us, hl with | [_], _ => rfl
theorem ok_trimmed_windows {Z : Res} {f : Addr} {fd : FuncData} (T : Txt mg) (F : FnP K "trimmed_windows" "trimmed_windows" s_trimmed_windows [] f fd) (c_is_idle : Cal P w K mg base Z 12 "is_idle" sp_is_idle) (c_spare_in : Cal P w K mg base Z 12 "spare_in" sp_spare_in) : FnOk P w K mg base CX0 13 f fd ["role"] (DSp K Z sp_trimmed_windows) := by
  refine okF F sc_trimmed_windows spV_mono (by intro xs Q h; first | exact h.1 ▸ rfl | (obtain ⟨a, rfl, _⟩ := h; rfl) | (obtain ⟨a, b, rfl, _⟩ := h; rfl) | (obtain ⟨a, b, c, rfl, _⟩ := h; rfl) | (obtain ⟨rfl, _⟩ := h; rfl)) ⟨w_trimmed_windows, fun cdv A outer s H E B0 H0 hr => ?d, fin_trimmed_windows⟩
  have hu := hr.units
  have nd := sc_trimmed_windows.nd
  exact (ds_cons (ds_own 1 nd da_nil)
    (ds_cons (ds_for (di_seq (de_ix (de_var 0) de_int)) (dg_tp (dgs_cons 2 nd (dgs_cons 3 nd (dgs_cons 4 nd dgs_nil))))
      (ds_one (ds_if (dt_not (dt_tru (de_call c_is_idle hr rfl (da_cons (de_tup (da_cons (de_var 2) (da_cons (de_var 3) (da_cons (de_var 4) da_nil)))) da_nil)))) (ds_cons (ds_set 5 nd (de_call c_spare_in hr rfl (da_cons (de_var 3) da_nil)))
        (ds_one (ds_app 1 (de_tup (da_cons (de_var 2) (da_cons (de_ty b_tuple (mono_one m_tup) rfl T.tuple (by decide +kernel) (da_cons (de_lc [("at", 6), ("lot", 7)] nd (DI.e (di_enum rfl T.enumerate (de_var 3))) (by kernel_rfl) (fun _ _ _ _ _ => (dg_tp (dgs_cons 6 nd (dgs_cons 7 nd dgs_nil)))) (fun _ _ _ _ _ => (dts_one (dt_cmp (o_nin hu) m_nin (de_var 6) (de_var 5)))) (fun _ _ _ _ _ => (de_var 7))) da_nil)) (da_cons (de_var 4) da_nil))))))) ds_nil)))
    (dss_frz 1 (ds_one (ds_ret (de_ty b_tuple (mono_one m_tup) rfl T.tuple (by decide +kernel) (da_cons (de_var 1) da_nil)))))))
theorem sc_trimmed : FnScope ["app", "role"] ["app"] (defScope s_trimmed) := ⟨rfl, rfl, rfl, by decide +kernel, rfl, by decide +kernel, by decide +kernel⟩
theorem bn_trimmed {K : PySem.W.Frag} {f : Addr} {fd : FuncData} (F : FnP K "trimmed" "trimmed" s_trimmed [] f fd) : Binds K fd ["app"] [] := FunD.bindsN F fun _ _ _ _ _ _ us hl => match us, hl with | [_], _ => rfl
theorem ok_trimmed {Z : Res} {f : Addr} {fd : FuncData} (T : Txt mg) (F : FnP K "trimmed" "trimmed" s_trimmed [] f fd) (c_trimmed_windows : Cal P w K mg base Z 13 "trimmed_windows" sp_trimmed_windows) : FnOk P w K mg base CX0 14 f fd ["app"] (DSp K Z sp_trimmed) := by
  refine okF F sc_trimmed spV_mono (by intro xs Q h; first | exact h.1 ▸ rfl | (obtain ⟨a, rfl, _⟩ := h; rfl) | (obtain ⟨a, b, rfl, _⟩ := h; rfl) | (obtain ⟨a, b, c, rfl, _⟩ := h; rfl) | (obtain ⟨rfl, _⟩ := h; rfl)) ⟨w_trimmed, fun cdv A outer s H E B0 H0 hr => ?d, fin_trimmed⟩
  have hu := hr.units
  have nd := sc_trimmed.nd
  exact (ds_one (ds_ret (de_op o_add m_add (de_tup (da_cons (de_ix (de_var 0) de_int) (da_cons (de_ty b_tuple (mono_one m_tup) rfl T.tuple (by decide +kernel) (da_cons (de_lc [("role", 1)] nd (die_seq (de_ix (de_var 0) de_int)) (by kernel_rfl) (fun _ _ _ _ _ => (dg_nm 1 nd)) (fun _ _ _ _ _ => dts_nil) (fun _ _ _ _ _ => (de_tup (da_cons (de_ix (de_var 1) de_int) (da_cons (de_ix (de_var 1) de_int) (da_cons (de_call c_trimmed_windows hr rfl (da_cons (de_var 1) da_nil)) da_nil)))))) da_nil)) da_nil))) (de_slice (de_var 0) (do_some de_int) do_none))))
theorem sc_sizes : FnScope ["app", "fields", "windows", "table", "role"] ["app"] (defScope s_sizes) := ⟨rfl, rfl, rfl, by decide +kernel, rfl, by decide +kernel, by decide +kernel⟩
theorem bn_sizes {K : PySem.W.Frag} {f : Addr} {fd : FuncData} (F : FnP K "sizes" "sizes" s_sizes [] f fd) : Binds K fd ["app"] [] := FunD.bindsN F fun _ _ _ _ _ _ us hl => match us, hl with | [_], _ => rfl
theorem ok_sizes {Z : Res} {f : Addr} {fd : FuncData} (T : Txt mg) (F : FnP K "sizes" "sizes" s_sizes [] f fd) : FnOk P w K mg base CX0 1 f fd ["app"] (DSp K Z sp_sizes) := by
  refine okF F sc_sizes spV_mono (by intro xs Q h; first | exact h.1 ▸ rfl | (obtain ⟨a, rfl, _⟩ := h; rfl) | (obtain ⟨a, b, rfl, _⟩ := h; rfl) | (obtain ⟨a, b, c, rfl, _⟩ := h; rfl) | (obtain ⟨rfl, _⟩ := h; rfl)) ⟨w_sizes, fun cdv A outer s H E B0 H0 hr => ?d, fin_sizes⟩
  have hu := hr.units
  have nd := sc_sizes.nd
  exact (ds_cons (ds_set 1 nd (de_blt (b_sum rfl) (mono_one m_sum) rfl T.sum (by decide +kernel) (da_cons (de_lc [("table", 3)] nd (die_seq (de_ix (de_var 0) de_int)) (by kernel_rfl) (fun _ _ _ _ _ => (dg_nm 3 nd)) (fun _ _ _ _ _ => dts_nil) (fun _ _ _ _ _ => (de_blt b_len (mono_one m_len) rfl T.len (by decide +kernel) (da_cons (de_ix (de_var 3) de_int) da_nil)))) da_nil)))
    (ds_cons (ds_set 2 nd (de_blt (b_sum rfl) (mono_one m_sum) rfl T.sum (by decide +kernel) (da_cons (de_lc [("role", 4)] nd (die_seq (de_ix (de_var 0) de_int)) (by kernel_rfl) (fun _ _ _ _ _ => (dg_nm 4 nd)) (fun _ _ _ _ _ => dts_nil) (fun _ _ _ _ _ => (de_blt b_len (mono_one m_len) rfl T.len (by decide +kernel) (da_cons (de_ix (de_var 4) de_int) da_nil)))) da_nil)))
    (ds_one (ds_ret (de_tup (da_cons (de_blt b_len (mono_one m_len) rfl T.len (by decide +kernel) (da_cons (de_ix (de_var 0) de_int) da_nil)) (da_cons (de_var 1) (da_cons (de_blt b_len (mono_one m_len) rfl T.len (by decide +kernel) (da_cons (de_ix (de_var 0) de_int) da_nil)) (da_cons (de_var 2) (da_cons (de_blt b_len (mono_one m_len) rfl T.len (by decide +kernel) (da_cons (de_ix (de_var 0) de_int) da_nil)) (da_cons (de_blt b_len (mono_one m_len) rfl T.len (by decide +kernel) (da_cons (de_ix (de_var 0) de_int) da_nil)) da_nil)))))))))))
theorem sc_WayMaker_facts : FnScope ["self", "numbers", "part", "letter", "at"] ["self", "numbers", "part", "letter"] (defScope s_WayMaker_facts) := ⟨rfl, rfl, rfl, by decide +kernel, rfl, by decide +kernel, by decide +kernel⟩
theorem bn_WayMaker_facts {K : PySem.W.Frag} {f : Addr} {fd : FuncData} (F : FnP K "facts" "WayMaker.facts" s_WayMaker_facts [] f fd) : Binds K fd ["self", "numbers", "part", "letter"] [] := FunD.bindsN F fun _ _ _ _ _ _ us hl => match us, hl with | [_, _, _, _], _ => rfl
theorem ok_WayMaker_facts {Z : Res} {f : Addr} {fd : FuncData} (T : Txt mg) (F : FnP K "facts" "WayMaker.facts" s_WayMaker_facts [] f fd) (M : WMC K C_WayMaker) (c_WayMaker_fact : Mth P w K mg base Z 1 C_WayMaker "fact" (sp_WayMaker_fact K C_WayMaker)) : FnOk P w K mg base CX0 2 f fd ["self", "numbers", "part", "letter"] (DSp K Z (sp_WayMaker_facts K C_WayMaker)) := by
  refine okF F sc_WayMaker_facts spV_mono (by intro xs Q h; first | exact h.1 ▸ rfl | (obtain ⟨a, rfl, _⟩ := h; rfl) | (obtain ⟨a, b, rfl, _⟩ := h; rfl) | (obtain ⟨a, b, c, rfl, _⟩ := h; rfl) | (obtain ⟨rfl, _⟩ := h; rfl)) ⟨(w_WayMaker_facts K C_WayMaker), fun cdv A outer s H E B0 H0 hr => ?d, (fin_WayMaker_facts M)⟩
  have hu := hr.units
  have nd := sc_WayMaker_facts.nd
  exact (ds_one (ds_ret (de_ty b_tuple (mono_one m_tup) rfl T.tuple (by decide +kernel) (da_cons (de_lc [("at", 4)] nd (die_seq (de_var 1)) (by kernel_rfl) (fun _ _ _ _ _ => (dg_nm 4 nd)) (fun _ _ _ _ _ => dts_nil) (fun _ _ _ _ _ => (de_meth c_WayMaker_fact hr (de_var 0) (da_cons (de_var 4) (da_cons (de_var 2) (da_cons (de_var 3) da_nil)))))) da_nil))))
theorem sc_WayMaker_worth : FnScope ["self", "part", "letter"] ["self", "part", "letter"] (defScope s_WayMaker_worth) := ⟨rfl, rfl, rfl, by decide +kernel, rfl, by decide +kernel, by decide +kernel⟩
theorem bn_WayMaker_worth {K : PySem.W.Frag} {f : Addr} {fd : FuncData} (F : FnP K "worth" "WayMaker.worth" s_WayMaker_worth [] f fd) : Binds K fd ["self", "part", "letter"] [] := FunD.bindsN F fun _ _ _ _ _ _ us hl => match us, hl with | [_, _, _], _ => rfl
theorem ok_WayMaker_worth {Z : Res} {f : Addr} {fd : FuncData} (T : Txt mg) (F : FnP K "worth" "WayMaker.worth" s_WayMaker_worth [] f fd) (M : WMC K C_WayMaker) : FnOk P w K mg base CX0 1 f fd ["self", "part", "letter"] (DSp K Z (sp_WayMaker_worth K C_WayMaker)) := by
  refine okF F sc_WayMaker_worth spV_mono (by intro xs Q h; first | exact h.1 ▸ rfl | (obtain ⟨a, rfl, _⟩ := h; rfl) | (obtain ⟨a, b, rfl, _⟩ := h; rfl) | (obtain ⟨a, b, c, rfl, _⟩ := h; rfl) | (obtain ⟨rfl, _⟩ := h; rfl)) ⟨(w_WayMaker_worth K), fun cdv A outer s H E B0 H0 hr => ?d, (fin_WayMaker_worth M)⟩
  have hu := hr.units
  have nd := sc_WayMaker_worth.nd
  exact (ds_cons (ds_if (dt_cmp (o_ne hu) m_ne (de_ix (de_ix (de_fld (de_var 0)) de_int) de_int) de_str) (ds_one (ds_ret (de_tup da_nil))) ds_nil)
    (ds_one ds_never))
theorem sc_WayMaker_naming : FnScope ["self", "numbers", "part", "at"] ["self", "numbers", "part"] (defScope s_WayMaker_naming) := ⟨rfl, rfl, rfl, by decide +kernel, rfl, by decide +kernel, by decide +kernel⟩
theorem bn_WayMaker_naming {K : PySem.W.Frag} {f : Addr} {fd : FuncData} (F : FnP K "naming" "WayMaker.naming" s_WayMaker_naming [] f fd) : Binds K fd ["self", "numbers", "part"] [] := FunD.bindsN F fun _ _ _ _ _ _ us hl => match us, hl with | [_, _, _], _ => rfl
theorem ok_WayMaker_naming {Z : Res} {f : Addr} {fd : FuncData} (T : Txt mg) (F : FnP K "naming" "WayMaker.naming" s_WayMaker_naming [] f fd) (M : WMC K C_WayMaker) (c_literal_parts : Cal P w K mg base Z 1 "literal_parts" sp_literal_parts) : FnOk P w K mg base CX0 2 f fd ["self", "numbers", "part"] (DSp K Z (sp_WayMaker_naming K C_WayMaker)) := by
  refine okF F sc_WayMaker_naming spV_mono (by intro xs Q h; first | exact h.1 ▸ rfl | (obtain ⟨a, rfl, _⟩ := h; rfl) | (obtain ⟨a, b, rfl, _⟩ := h; rfl) | (obtain ⟨a, b, c, rfl, _⟩ := h; rfl) | (obtain ⟨rfl, _⟩ := h; rfl)) ⟨(w_WayMaker_naming K), fun cdv A outer s H E B0 H0 hr => ?d, (fin_WayMaker_naming M)⟩
  have hu := hr.units
  have nd := sc_WayMaker_naming.nd
  exact (ds_one (ds_ret (de_lc [("at", 3)] nd (die_seq (de_var 1)) (by kernel_rfl) (fun _ _ _ _ _ => (dg_nm 3 nd)) (fun _ _ _ _ _ => (dts_one (dt_cmp (o_in hu) m_in (de_var 2) (de_call c_literal_parts hr rfl (da_cons (de_ix (de_ix (de_fld (de_var 0)) de_int) (de_var 3)) da_nil))))) (fun _ _ _ _ _ => (de_var 3)))))
theorem sc_WayMaker_ways : FnScope ["self", "plain", "beside", "told", "part", "fields", "at"] ["self"] (defScope s_WayMaker_ways) := ⟨rfl, rfl, rfl, by decide +kernel, rfl, by decide +kernel, by decide +kernel⟩
theorem bn_WayMaker_ways {K : PySem.W.Frag} {f : Addr} {fd : FuncData} (F : FnP K "ways" "WayMaker.ways" s_WayMaker_ways [] f fd) : Binds K fd ["self"] [] := FunD.bindsN F fun _ _ _ _ _ _ us hl => match us, hl with | [_], _ => rfl
theorem ok_WayMaker_ways {Z : Res} {f : Addr} {fd : FuncData} (T : Txt mg) (F : FnP K "ways" "WayMaker.ways" s_WayMaker_ways [] f fd) (M : WMC K C_WayMaker) (c_WayMaker_naming : Mth P w K mg base Z 2 C_WayMaker "naming" (sp_WayMaker_naming K C_WayMaker)) (c_beside_literals : Cal P w K mg base Z 2 "beside_literals" sp_beside_literals) (c_plain_literals : Cal P w K mg base Z 2 "plain_literals" sp_plain_literals) (c_told_fields : Cal P w K mg base Z 1 "told_fields" sp_told_fields) : FnOk P w K mg base CX0 3 f fd ["self"] (DSp K Z (sp_WayMaker_ways K C_WayMaker)) := by
  refine okF F sc_WayMaker_ways spV_mono (by intro xs Q h; first | exact h.1 ▸ rfl | (obtain ⟨a, rfl, _⟩ := h; rfl) | (obtain ⟨a, b, rfl, _⟩ := h; rfl) | (obtain ⟨a, b, c, rfl, _⟩ := h; rfl) | (obtain ⟨rfl, _⟩ := h; rfl)) ⟨(w_WayMaker_ways K C_WayMaker), fun cdv A outer s H E B0 H0 hr => ?d, (fin_WayMaker_ways M)⟩
  have hu := hr.units
  have nd := sc_WayMaker_ways.nd
  exact (ds_cons (ds_par 1 2 nd (da_cons (de_call c_plain_literals hr rfl (da_cons (de_fld (de_var 0)) da_nil)) (da_cons (de_call c_beside_literals hr rfl (da_cons (de_fld (de_var 0)) da_nil)) da_nil)))
    (ds_cons (ds_own 3 nd da_nil)
    (ds_cons (ds_for (di_rng1 rfl T.range (de_fld (de_var 0))) (dg_nm 4 nd)
      (ds_cons (ds_app 3 (de_tup (da_cons de_str (da_cons (de_var 4) (da_cons (de_neg de_int) da_nil)))))
      (ds_cons (ds_extend 3 (de_lc [("at", 6)] nd (die_seq (de_meth c_WayMaker_naming hr (de_var 0) (da_cons (de_var 1) (da_cons (de_var 4) da_nil)))) (by kernel_rfl) (fun _ _ _ _ _ => (dg_nm 6 nd)) (fun _ _ _ _ _ => dts_nil) (fun _ _ _ _ _ => (de_tup (da_cons de_str (da_cons (de_var 4) (da_cons (de_var 6) da_nil)))))))
      (ds_cons (ds_extend 3 (de_lc [("at", 6)] nd (die_seq (de_meth c_WayMaker_naming hr (de_var 0) (da_cons (de_var 2) (da_cons (de_var 4) da_nil)))) (by kernel_rfl) (fun _ _ _ _ _ => (dg_nm 6 nd)) (fun _ _ _ _ _ => dts_nil) (fun _ _ _ _ _ => (de_tup (da_cons de_str (da_cons (de_var 4) (da_cons (de_var 6) da_nil)))))))
      (ds_cons (ds_set 5 nd (de_call c_told_fields hr rfl (da_cons (de_ix (de_fld (de_var 0)) de_int) da_nil)))
      (ds_one (ds_extend 3 (de_lc [("at", 6)] nd (DI.e (di_rng1 rfl T.range (de_blt b_len (mono_one m_len) rfl T.len (by decide +kernel) (da_cons (de_var 5) da_nil)))) (by kernel_rfl) (fun _ _ _ _ _ => (dg_nm 6 nd)) (fun _ _ _ _ _ => (dts_one (dt_cmp (o_eq hu) m_eq (de_ix (de_ix (de_var 5) (de_var 6)) de_int) (de_var 4)))) (fun _ _ _ _ _ => (de_tup (da_cons de_str (da_cons (de_var 4) (da_cons (de_var 6) da_nil)))))))))))))
    (ds_cons (ds_if (dt_notN (de_ix (de_fld (de_var 0)) de_int)) (ds_cons (ds_app 3 (de_tup (da_cons de_str (da_cons (de_fld (de_var 0)) (da_cons (de_neg de_int) da_nil)))))
      (ds_one (ds_extend 3 (de_lc [("at", 6)] nd (die_seq (de_var 2)) (by kernel_rfl) (fun _ _ _ _ _ => (dg_nm 6 nd)) (fun _ _ _ _ _ => dts_nil) (fun _ _ _ _ _ => (de_tup (da_cons de_str (da_cons (de_fld (de_var 0)) (da_cons (de_var 6) da_nil))))))))) ds_nil)
    (dss_frz 3 (ds_one (ds_ret (de_var 3))))))))
end
end K85

set_option maxRecDepth 100000
set_option maxHeartbeats 4000000
namespace K85
open PySem L2 DL
section
variable {P : Program} {w : World} {K : PySem.W.Frag} {mg : Str → Option Value} {base : Heap} {C_WayMaker : Addr}
theorem sc_WayMaker_put_facts : FnScope ["self", "part", "facts"] ["self", "part"] (defScope s_WayMaker_put_facts) := ⟨rfl, rfl, rfl, by decide +kernel, rfl, by decide +kernel, by decide +kernel⟩
theorem bn_WayMaker_put_facts {K : PySem.W.Frag} {f : Addr} {fd : FuncData} (F : FnP K "put_facts" "WayMaker.put_facts" s_WayMaker_put_facts [] f fd) : Binds K fd ["self", "part"] [] := FunD.bindsN F fun _ _ _ _ _ _ us hl => match us, hl with | [_, _], _ => rfl
theorem ok_WayMaker_put_facts {Z : Res} {f : Addr} {fd : FuncData} (T : Txt mg) (F : FnP K "put_facts" "WayMaker.put_facts" s_WayMaker_put_facts [] f fd) (M : WMC K C_WayMaker) (c_WayMaker_facts : Mth P w K mg base Z 2 C_WayMaker "facts" (sp_WayMaker_facts K C_WayMaker)) (c_beside_literals : Cal P w K mg base Z 2 "beside_literals" sp_beside_literals) (c_plain_literals : Cal P w K mg base Z 2 "plain_literals" sp_plain_literals) : FnOk P w K mg base CX0 3 f fd ["self", "part"] (DSp K Z (sp_WayMaker_put_facts K C_WayMaker)) := by
  refine okF F sc_WayMaker_put_facts spV_mono (by intro xs Q h; first | exact h.1 ▸ rfl | (obtain ⟨a, rfl, _⟩ := h; rfl) | (obtain ⟨a, b, rfl, _⟩ := h; rfl) | (obtain ⟨a, b, c, rfl, _⟩ := h; rfl) | (obtain ⟨rfl, _⟩ := h; rfl)) ⟨(w_WayMaker_put_facts K C_WayMaker), fun cdv A outer s H E B0 H0 hr => ?d, (fin_WayMaker_put_facts M)⟩
  have hu := hr.units
  have nd := sc_WayMaker_put_facts.nd
  exact (ds_cons (ds_set 2 nd (de_meth c_WayMaker_facts hr (de_var 0) (da_cons (de_call c_plain_literals hr rfl (da_cons (de_fld (de_var 0)) da_nil)) (da_cons (de_var 1) (da_cons de_str da_nil)))))
    (ds_one (ds_ret (de_if (dt_cmp o_lt m_lt (de_var 1) (de_fld (de_var 0))) (de_var 2) (de_op o_add m_add (de_var 2) (de_meth c_WayMaker_facts hr (de_var 0) (da_cons (de_call c_beside_literals hr rfl (da_cons (de_fld (de_var 0)) da_nil)) (da_cons (de_var 1) (da_cons de_str da_nil)))))))))
theorem sc_WayMaker_lots : FnScope ["self", "way", "kind", "part", "at", "table", "facts"] ["self", "way"] (defScope s_WayMaker_lots) := ⟨rfl, rfl, rfl, by decide +kernel, rfl, by decide +kernel, by decide +kernel⟩
theorem bn_WayMaker_lots {K : PySem.W.Frag} {f : Addr} {fd : FuncData} (F : FnP K "lots" "WayMaker.lots" s_WayMaker_lots [] f fd) : Binds K fd ["self", "way"] [] := FunD.bindsN F fun _ _ _ _ _ _ us hl => match us, hl with | [_, _], _ => rfl
theorem ok_WayMaker_lots {Z : Res} {f : Addr} {fd : FuncData} (T : Txt mg) (F : FnP K "lots" "WayMaker.lots" s_WayMaker_lots [] f fd) (M : WMC K C_WayMaker) (c_WayMaker_put_facts : Mth P w K mg base Z 3 C_WayMaker "put_facts" (sp_WayMaker_put_facts K C_WayMaker)) (c_WayMaker_worth : Mth P w K mg base Z 1 C_WayMaker "worth" (sp_WayMaker_worth K C_WayMaker)) (c_all_lots : Cal P w K mg base Z 2 "all_lots" sp_all_lots) (c_ask_tables : Cal P w K mg base Z 1 "ask_tables" sp_ask_tables) (c_unseen_lots : Cal P w K mg base Z 5 "unseen_lots" sp_unseen_lots) : FnOk P w K mg base CX0 6 f fd ["self", "way"] (DSp K Z (sp_WayMaker_lots K C_WayMaker)) := by
  refine okF F sc_WayMaker_lots spV_mono (by intro xs Q h; first | exact h.1 ▸ rfl | (obtain ⟨a, rfl, _⟩ := h; rfl) | (obtain ⟨a, b, rfl, _⟩ := h; rfl) | (obtain ⟨a, b, c, rfl, _⟩ := h; rfl) | (obtain ⟨rfl, _⟩ := h; rfl)) ⟨(w_WayMaker_lots K C_WayMaker), fun cdv A outer s H E B0 H0 hr => ?d, (fin_WayMaker_lots M)⟩
  have hu := hr.units
  have nd := sc_WayMaker_lots.nd
  exact (ds_cons (ds_unp (dg_tp (dgs_cons 2 nd (dgs_cons 3 nd (dgs_cons 4 nd dgs_nil)))) (de_var 1))
    (ds_cons (ds_set 5 nd (de_ix (de_call c_ask_tables hr rfl (da_cons (de_fld (de_var 0)) da_nil)) (de_var 3)))
    (ds_cons (ds_if (dt_cmp (o_eq hu) m_eq (de_var 2) de_str) (ds_cons (ds_set 6 nd (de_meth c_WayMaker_put_facts hr (de_var 0) (da_cons (de_var 3) da_nil)))
      (ds_one (ds_ret (de_call c_all_lots hr rfl (da_cons (de_lst (da_cons (de_tup (da_cons (de_op o_add m_add (de_var 6) (de_meth c_WayMaker_worth hr (de_var 0) (da_cons (de_var 3) (da_cons de_str da_nil)))) da_nil)) (da_cons (de_call c_unseen_lots hr rfl (da_cons (de_fld (de_var 0)) (da_cons (de_fld (de_var 0)) (da_cons (de_var 5) (da_cons de_str da_nil))))) da_nil))) da_nil))))) ds_nil)
    (ds_cons ds_never
    (ds_cons ds_never
    (ds_one ds_never))))))
theorem sc_own_maker : FnScope ["app", "ask", "row"] ["app", "ask"] (defScope s_own_maker) := ⟨rfl, rfl, rfl, by decide +kernel, rfl, by decide +kernel, by decide +kernel⟩
theorem bn_own_maker {K : PySem.W.Frag} {f : Addr} {fd : FuncData} (F : FnP K "own_maker" "own_maker" s_own_maker [] f fd) : Binds K fd ["app", "ask"] [] := FunD.bindsN F fun _ _ _ _ _ _ us hl => match us, hl with | [_, _], _ => rfl
theorem ok_own_maker {Z : Res} {f : Addr} {fd : FuncData} (T : Txt mg) (F : FnP K "own_maker" "own_maker" s_own_maker [] f fd) (M : WMC K C_WayMaker) (t_OWN : WTab K w mg "OWN" tab_OWN) (mk_WayMaker : Mkr P w K mg base Z 1 "WayMaker" (mk_sp_WayMaker K C_WayMaker)) (c_ask_of : Cal P w K mg base Z 2 "ask_of" sp_ask_of) : FnOk P w K mg base CX0 3 f fd ["app", "ask"] (DSp K Z (sp_own_maker K C_WayMaker)) := by
  refine okF F sc_own_maker mono_own_maker (by intro xs Q h; first | exact h.1 ▸ rfl | (obtain ⟨a, rfl, _⟩ := h; rfl) | (obtain ⟨a, b, rfl, _⟩ := h; rfl) | (obtain ⟨a, b, c, rfl, _⟩ := h; rfl) | (obtain ⟨rfl, _⟩ := h; rfl)) ⟨(w_own_maker K C_WayMaker), fun cdv A outer s H E B0 H0 hr => ?d, (fin_own_maker M)⟩
  have hu := hr.units
  have nd := sc_own_maker.nd
  exact (ds_cons (ds_set 2 nd (de_call c_ask_of hr rfl (da_cons (de_var 0) (da_cons (de_var 1) da_nil))))
    (ds_one (ds_ret (de_make mk_WayMaker hr rfl (da_cons (de_var 0) (da_cons (de_var 2) (da_cons (de_ix (de_var 2) de_int) (da_cons (de_dictW t_OWN rfl rfl T.dict) da_nil))))))))
theorem sc_ask_ways : FnScope ["app", "ask", "maker", "way"] ["app", "ask"] (defScope s_ask_ways) := ⟨rfl, rfl, rfl, by decide +kernel, rfl, by decide +kernel, by decide +kernel⟩
theorem bn_ask_ways {K : PySem.W.Frag} {f : Addr} {fd : FuncData} (F : FnP K "ask_ways" "ask_ways" s_ask_ways [] f fd) : Binds K fd ["app", "ask"] [] := FunD.bindsN F fun _ _ _ _ _ _ us hl => match us, hl with | [_, _], _ => rfl
theorem ok_ask_ways {Z : Res} {f : Addr} {fd : FuncData} (T : Txt mg) (F : FnP K "ask_ways" "ask_ways" s_ask_ways [] f fd) (M : WMC K C_WayMaker) (c_WayMaker_lots : Mth P w K mg base Z 6 C_WayMaker "lots" (sp_WayMaker_lots K C_WayMaker)) (c_WayMaker_ways : Mth P w K mg base Z 3 C_WayMaker "ways" (sp_WayMaker_ways K C_WayMaker)) (c_own_maker : Cal P w K mg base Z 3 "own_maker" (sp_own_maker K C_WayMaker)) (c_some_holds : Cal P w K mg base Z 11 "some_holds" sp_some_holds) : FnOk P w K mg base CX0 12 f fd ["app", "ask"] (DSp K Z sp_ask_ways) := by
  refine okF F sc_ask_ways spV_mono (by intro xs Q h; first | exact h.1 ▸ rfl | (obtain ⟨a, rfl, _⟩ := h; rfl) | (obtain ⟨a, b, rfl, _⟩ := h; rfl) | (obtain ⟨a, b, c, rfl, _⟩ := h; rfl) | (obtain ⟨rfl, _⟩ := h; rfl)) ⟨(w_ask_ways K C_WayMaker), fun cdv A outer s H E B0 H0 hr => ?d, (fin_ask_ways M)⟩
  have hu := hr.units
  have nd := sc_ask_ways.nd
  exact (ds_cons (ds_set 2 nd (de_call c_own_maker hr rfl (da_cons (de_var 0) (da_cons (de_var 1) da_nil))))
    (ds_one (ds_ret (de_ty b_tuple (mono_one m_tup) rfl T.tuple (by decide +kernel) (da_cons (de_lc [("way", 3)] nd (die_seq (de_meth0 c_WayMaker_ways hr (de_var 2))) (by kernel_rfl) (fun _ _ _ _ _ => (dg_nm 3 nd)) (fun _ _ _ _ _ => (dts_one (dt_tru (de_call c_some_holds hr rfl (da_cons (de_meth c_WayMaker_lots hr (de_var 2) (da_cons (de_var 3) da_nil)) da_nil))))) (fun _ _ _ _ _ => (de_var 3))) da_nil)))))
theorem sc_look_value : FnScope ["term", "row", "badge"] ["term", "row", "badge"] (defScope s_look_value) := ⟨rfl, rfl, rfl, by decide +kernel, rfl, by decide +kernel, by decide +kernel⟩
theorem bn_look_value {K : PySem.W.Frag} {f : Addr} {fd : FuncData} (F : FnP K "look_value" "look_value" s_look_value [] f fd) : Binds K fd ["term", "row", "badge"] [] := FunD.bindsN F fun _ _ _ _ _ _ us hl => match us, hl with | [_, _, _], _ => rfl
theorem ok_look_value {Z : Res} {f : Addr} {fd : FuncData} (T : Txt mg) (F : FnP K "look_value" "look_value" s_look_value [] f fd) : FnOk P w K mg base CX0 1 f fd ["term", "row", "badge"] (DSp K Z sp_look_value) := by
  refine okF F sc_look_value spV_mono (by intro xs Q h; first | exact h.1 ▸ rfl | (obtain ⟨a, rfl, _⟩ := h; rfl) | (obtain ⟨a, b, rfl, _⟩ := h; rfl) | (obtain ⟨a, b, c, rfl, _⟩ := h; rfl) | (obtain ⟨rfl, _⟩ := h; rfl)) ⟨w_look_value, fun cdv A outer s H E B0 H0 hr => ?d, fin_look_value⟩
  have hu := hr.units
  have nd := sc_look_value.nd
  exact (ds_cons (ds_if (dt_cmp (o_eq hu) m_eq (de_ix (de_var 0) de_int) de_str) (ds_one (ds_ret (de_ix (de_var 1) (de_ix (de_var 0) de_int)))) ds_nil)
    (ds_one (ds_ret (de_if (dt_cmp (o_eq hu) m_eq (de_ix (de_var 0) de_int) de_str) (de_ix (de_var 2) (de_ix (de_var 0) de_int)) (de_ix (de_var 0) de_int)))))
theorem sc_lot_holds : FnScope ["lot", "row", "badge", "sign", "field", "term"] ["lot", "row", "badge"] (defScope s_lot_holds) := ⟨rfl, rfl, rfl, by decide +kernel, rfl, by decide +kernel, by decide +kernel⟩
theorem bn_lot_holds {K : PySem.W.Frag} {f : Addr} {fd : FuncData} (F : FnP K "lot_holds" "lot_holds" s_lot_holds [] f fd) : Binds K fd ["lot", "row", "badge"] [] := FunD.bindsN F fun _ _ _ _ _ _ us hl => match us, hl with | [_, _, _], _ => rfl
theorem ok_lot_holds {Z : Res} {f : Addr} {fd : FuncData} (T : Txt mg) (F : FnP K "lot_holds" "lot_holds" s_lot_holds [] f fd) (c_look_value : Cal P w K mg base Z 1 "look_value" sp_look_value) : FnOk P w K mg base CX0 2 f fd ["lot", "row", "badge"] (DSp K Z sp_lot_holds) := by
  refine okF F sc_lot_holds spV_mono (by intro xs Q h; first | exact h.1 ▸ rfl | (obtain ⟨a, rfl, _⟩ := h; rfl) | (obtain ⟨a, b, rfl, _⟩ := h; rfl) | (obtain ⟨a, b, c, rfl, _⟩ := h; rfl) | (obtain ⟨rfl, _⟩ := h; rfl)) ⟨w_lot_holds, fun cdv A outer s H E B0 H0 hr => ?d, fin_lot_holds⟩
  have hu := hr.units
  have nd := sc_lot_holds.nd
  exact (ds_cons (ds_for (di_seq (de_var 0)) (dg_tp (dgs_cons 3 nd (dgs_cons 4 nd (dgs_cons 5 nd dgs_nil))))
      (ds_one (ds_if (dt_cmp (o_ne hu) m_ne (de_cmp (o_eq hu) m_eq (de_ix (de_var 1) (de_var 4)) (de_call c_look_value hr rfl (da_cons (de_var 5) (da_cons (de_var 1) (da_cons (de_var 2) da_nil))))) (de_cmp (o_eq hu) m_eq (de_var 3) de_str)) (ds_one (ds_ret de_bl)) ds_nil)))
    (ds_one (ds_ret de_bl)))
theorem sc_show_through : FnScope ["window", "row", "badge", "field", "lot"] ["window", "row", "badge"] (defScope s_show_through) := ⟨rfl, rfl, rfl, by decide +kernel, rfl, by decide +kernel, by decide +kernel⟩
theorem bn_show_through {K : PySem.W.Frag} {f : Addr} {fd : FuncData} (F : FnP K "show_through" "show_through" s_show_through [] f fd) : Binds K fd ["window", "row", "badge"] [] := FunD.bindsN F fun _ _ _ _ _ _ us hl => match us, hl with | [_, _, _], _ => rfl
theorem ok_show_through {Z : Res} {f : Addr} {fd : FuncData} (T : Txt mg) (F : FnP K "show_through" "show_through" s_show_through [] f fd) (c_lot_holds : Cal P w K mg base Z 2 "lot_holds" sp_lot_holds) : FnOk P w K mg base CX0 3 f fd ["window", "row", "badge"] (DSp K Z sp_show_through) := by
  refine okF F sc_show_through spV_mono (by intro xs Q h; first | exact h.1 ▸ rfl | (obtain ⟨a, rfl, _⟩ := h; rfl) | (obtain ⟨a, b, rfl, _⟩ := h; rfl) | (obtain ⟨a, b, c, rfl, _⟩ := h; rfl) | (obtain ⟨rfl, _⟩ := h; rfl)) ⟨w_show_through, fun cdv A outer s H E B0 H0 hr => ?d, fin_show_through⟩
  have hu := hr.units
  have nd := sc_show_through.nd
  exact (ds_cons (ds_if (DW.dt (dw_or (dt_isN (de_var 0)) (dw_or1 (dt_not (dt_tru (de_lc [("lot", 4)] nd (die_seq (de_ix (de_var 0) de_int)) (by kernel_rfl) (fun _ _ _ _ _ => (dg_nm 4 nd)) (fun _ _ _ _ _ => (dts_one (dt_tru (de_call c_lot_holds hr rfl (da_cons (de_var 4) (da_cons (de_var 1) (da_cons (de_var 2) da_nil))))))) (fun _ _ _ _ _ => (de_var 4)))))))) (ds_one (ds_ret de_non)) ds_nil)
    (ds_one (ds_ret (de_ty b_tuple (mono_one m_tup) rfl T.tuple (by decide +kernel) (da_cons (de_lc [("field", 3)] nd (die_seq (de_ix (de_var 0) de_int)) (by kernel_rfl) (fun _ _ _ _ _ => (dg_nm 3 nd)) (fun _ _ _ _ _ => dts_nil) (fun _ _ _ _ _ => (de_ix (de_var 1) (de_var 3)))) da_nil)))))
theorem sc_show_of : FnScope ["app", "person", "table", "row"] ["app", "person", "table", "row"] (defScope s_show_of) := ⟨rfl, rfl, rfl, by decide +kernel, rfl, by decide +kernel, by decide +kernel⟩
theorem bn_show_of {K : PySem.W.Frag} {f : Addr} {fd : FuncData} (F : FnP K "show_of" "show_of" s_show_of [] f fd) : Binds K fd ["app", "person", "table", "row"] [] := FunD.bindsN F fun _ _ _ _ _ _ us hl => match us, hl with | [_, _, _, _], _ => rfl
theorem ok_show_of {Z : Res} {f : Addr} {fd : FuncData} (T : Txt mg) (F : FnP K "show_of" "show_of" s_show_of [] f fd) (c_show_through : Cal P w K mg base Z 3 "show_through" sp_show_through) (c_window_of : Cal P w K mg base Z 3 "window_of" sp_window_of) : FnOk P w K mg base CX0 4 f fd ["app", "person", "table", "row"] (DSp K Z sp_show_of) := by
  refine okF F sc_show_of spV_mono (by intro xs Q h; first | exact h.1 ▸ rfl | (obtain ⟨a, rfl, _⟩ := h; rfl) | (obtain ⟨a, b, rfl, _⟩ := h; rfl) | (obtain ⟨a, b, c, rfl, _⟩ := h; rfl) | (obtain ⟨rfl, _⟩ := h; rfl)) ⟨w_show_of, fun cdv A outer s H E B0 H0 hr => ?d, fin_show_of⟩
  have hu := hr.units
  have nd := sc_show_of.nd
  exact (ds_one (ds_ret (de_call c_show_through hr rfl (da_cons (de_call c_window_of hr rfl (da_cons (de_var 0) (da_cons (de_ix (de_var 1) de_int) (da_cons (de_var 2) da_nil)))) (da_cons (de_var 3) (da_cons (de_ix (de_var 1) de_int) da_nil))))))
theorem sc_is_seen : FnScope ["app", "person", "table", "row"] ["app", "person", "table", "row"] (defScope s_is_seen) := ⟨rfl, rfl, rfl, by decide +kernel, rfl, by decide +kernel, by decide +kernel⟩
theorem bn_is_seen {K : PySem.W.Frag} {f : Addr} {fd : FuncData} (F : FnP K "is_seen" "is_seen" s_is_seen [] f fd) : Binds K fd ["app", "person", "table", "row"] [] := FunD.bindsN F fun _ _ _ _ _ _ us hl => match us, hl with | [_, _, _, _], _ => rfl
theorem ok_is_seen {Z : Res} {f : Addr} {fd : FuncData} (T : Txt mg) (F : FnP K "is_seen" "is_seen" s_is_seen [] f fd) (c_show_of : Cal P w K mg base Z 4 "show_of" sp_show_of) : FnOk P w K mg base CX0 5 f fd ["app", "person", "table", "row"] (DSp K Z sp_is_seen) := by
  refine okF F sc_is_seen spV_mono (by intro xs Q h; first | exact h.1 ▸ rfl | (obtain ⟨a, rfl, _⟩ := h; rfl) | (obtain ⟨a, b, rfl, _⟩ := h; rfl) | (obtain ⟨a, b, c, rfl, _⟩ := h; rfl) | (obtain ⟨rfl, _⟩ := h; rfl)) ⟨w_is_seen, fun cdv A outer s H E B0 H0 hr => ?d, fin_is_seen⟩
  have hu := hr.units
  have nd := sc_is_seen.nd
  exact (ds_one (ds_ret (de_notN (de_call c_show_of hr rfl (da_cons (de_var 0) (da_cons (de_var 1) (da_cons (de_var 2) (da_cons (de_var 3) da_nil))))))))
theorem sc_seen_rows : FnScope ["app", "person", "store", "table", "row"] ["app", "person", "store", "table"] (defScope s_seen_rows) := ⟨rfl, rfl, rfl, by decide +kernel, rfl, by decide +kernel, by decide +kernel⟩
theorem bn_seen_rows {K : PySem.W.Frag} {f : Addr} {fd : FuncData} (F : FnP K "seen_rows" "seen_rows" s_seen_rows [] f fd) : Binds K fd ["app", "person", "store", "table"] [] := FunD.bindsN F fun _ _ _ _ _ _ us hl => match us, hl with | [_, _, _, _], _ => rfl
theorem ok_seen_rows {Z : Res} {f : Addr} {fd : FuncData} (T : Txt mg) (F : FnP K "seen_rows" "seen_rows" s_seen_rows [] f fd) (c_is_seen : Cal P w K mg base Z 5 "is_seen" sp_is_seen) (c_table_place : Cal P w K mg base Z 1 "table_place" sp_table_place) : FnOk P w K mg base CX0 6 f fd ["app", "person", "store", "table"] (DSp K Z sp_seen_rows) := by
  refine okF F sc_seen_rows spV_mono (by intro xs Q h; first | exact h.1 ▸ rfl | (obtain ⟨a, rfl, _⟩ := h; rfl) | (obtain ⟨a, b, rfl, _⟩ := h; rfl) | (obtain ⟨a, b, c, rfl, _⟩ := h; rfl) | (obtain ⟨rfl, _⟩ := h; rfl)) ⟨w_seen_rows, fun cdv A outer s H E B0 H0 hr => ?d, fin_seen_rows⟩
  have hu := hr.units
  have nd := sc_seen_rows.nd
  exact (ds_one (ds_ret (de_ty b_tuple (mono_one m_tup) rfl T.tuple (by decide +kernel) (da_cons (de_lc [("row", 4)] nd (die_seq (de_ix (de_var 2) (de_call c_table_place hr rfl (da_cons (de_var 0) (da_cons (de_var 3) da_nil))))) (by kernel_rfl) (fun _ _ _ _ _ => (dg_nm 4 nd)) (fun _ _ _ _ _ => (dts_one (dt_tru (de_call c_is_seen hr rfl (da_cons (de_var 0) (da_cons (de_var 1) (da_cons (de_var 3) (da_cons (de_var 4) da_nil)))))))) (fun _ _ _ _ _ => (de_var 4))) da_nil))))
end
end K85

set_option maxRecDepth 100000
set_option maxHeartbeats 4000000
namespace K85
open PySem L2 DL
section
variable {P : Program} {w : World} {K : PySem.W.Frag} {mg : Str → Option Value} {base : Heap} {C_WayMaker : Addr}
theorem sc_table_shows : FnScope ["app", "person", "store", "table", "row"] ["app", "person", "store", "table"] (defScope s_table_shows) := ⟨rfl, rfl, rfl, by decide +kernel, rfl, by decide +kernel, by decide +kernel⟩
theorem bn_table_shows {K : PySem.W.Frag} {f : Addr} {fd : FuncData} (F : FnP K "table_shows" "table_shows" s_table_shows [] f fd) : Binds K fd ["app", "person", "store", "table"] [] := FunD.bindsN F fun _ _ _ _ _ _ us hl => match us, hl with | [_, _, _, _], _ => rfl
theorem ok_table_shows {Z : Res} {f : Addr} {fd : FuncData} (T : Txt mg) (F : FnP K "table_shows" "table_shows" s_table_shows [] f fd) (c_seen_rows : Cal P w K mg base Z 6 "seen_rows" sp_seen_rows) (c_show_of : Cal P w K mg base Z 4 "show_of" sp_show_of) (c_window_of : Cal P w K mg base Z 3 "window_of" sp_window_of) : FnOk P w K mg base CX0 7 f fd ["app", "person", "store", "table"] (DSp K Z sp_table_shows) := by
  refine okF F sc_table_shows spV_mono (by intro xs Q h; first | exact h.1 ▸ rfl | (obtain ⟨a, rfl, _⟩ := h; rfl) | (obtain ⟨a, b, rfl, _⟩ := h; rfl) | (obtain ⟨a, b, c, rfl, _⟩ := h; rfl) | (obtain ⟨rfl, _⟩ := h; rfl)) ⟨w_table_shows, fun cdv A outer s H E B0 H0 hr => ?d, fin_table_shows⟩
  have hu := hr.units
  have nd := sc_table_shows.nd
  exact (ds_cons (ds_if (dt_isN (de_call c_window_of hr rfl (da_cons (de_var 0) (da_cons (de_ix (de_var 1) de_int) (da_cons (de_var 3) da_nil))))) (ds_one (ds_ret de_non)) ds_nil)
    (ds_one (ds_ret (de_ty b_tuple (mono_one m_tup) rfl T.tuple (by decide +kernel) (da_cons (de_blt (b_sorted hu) (mono_one m_sorted) rfl T.sorted (by decide +kernel) (da_cons (de_lc [("row", 4)] nd (die_seq (de_call c_seen_rows hr rfl (da_cons (de_var 0) (da_cons (de_var 1) (da_cons (de_var 2) (da_cons (de_var 3) da_nil)))))) (by kernel_rfl) (fun _ _ _ _ _ => (dg_nm 4 nd)) (fun _ _ _ _ _ => dts_nil) (fun _ _ _ _ _ => (de_call c_show_of hr rfl (da_cons (de_var 0) (da_cons (de_var 1) (da_cons (de_var 3) (da_cons (de_var 4) da_nil))))))) da_nil)) da_nil)))))
theorem sc_sight_of : FnScope ["app", "person", "store", "table"] ["app", "person", "store"] (defScope s_sight_of) := ⟨rfl, rfl, rfl, by decide +kernel, rfl, by decide +kernel, by decide +kernel⟩
theorem bn_sight_of {K : PySem.W.Frag} {f : Addr} {fd : FuncData} (F : FnP K "sight_of" "sight_of" s_sight_of [] f fd) : Binds K fd ["app", "person", "store"] [] := FunD.bindsN F fun _ _ _ _ _ _ us hl => match us, hl with | [_, _, _], _ => rfl
theorem ok_sight_of {Z : Res} {f : Addr} {fd : FuncData} (T : Txt mg) (F : FnP K "sight_of" "sight_of" s_sight_of [] f fd) (c_table_shows : Cal P w K mg base Z 7 "table_shows" sp_table_shows) : FnOk P w K mg base CX0 8 f fd ["app", "person", "store"] (DSp K Z sp_sight_of) := by
  refine okF F sc_sight_of spV_mono (by intro xs Q h; first | exact h.1 ▸ rfl | (obtain ⟨a, rfl, _⟩ := h; rfl) | (obtain ⟨a, b, rfl, _⟩ := h; rfl) | (obtain ⟨a, b, c, rfl, _⟩ := h; rfl) | (obtain ⟨rfl, _⟩ := h; rfl)) ⟨w_sight_of, fun cdv A outer s H E B0 H0 hr => ?d, fin_sight_of⟩
  have hu := hr.units
  have nd := sc_sight_of.nd
  exact (ds_one (ds_ret (de_ty b_tuple (mono_one m_tup) rfl T.tuple (by decide +kernel) (da_cons (de_lc [("table", 3)] nd (die_seq (de_ix (de_var 0) de_int)) (by kernel_rfl) (fun _ _ _ _ _ => (dg_nm 3 nd)) (fun _ _ _ _ _ => dts_nil) (fun _ _ _ _ _ => (de_call c_table_shows hr rfl (da_cons (de_var 0) (da_cons (de_var 1) (da_cons (de_var 2) (da_cons (de_ix (de_var 3) de_int) da_nil))))))) da_nil))))
theorem sc_are_alike : FnScope ["app", "person", "one", "other"] ["app", "person", "one", "other"] (defScope s_are_alike) := ⟨rfl, rfl, rfl, by decide +kernel, rfl, by decide +kernel, by decide +kernel⟩
theorem bn_are_alike {K : PySem.W.Frag} {f : Addr} {fd : FuncData} (F : FnP K "are_alike" "are_alike" s_are_alike [] f fd) : Binds K fd ["app", "person", "one", "other"] [] := FunD.bindsN F fun _ _ _ _ _ _ us hl => match us, hl with | [_, _, _, _], _ => rfl
theorem ok_are_alike {Z : Res} {f : Addr} {fd : FuncData} (T : Txt mg) (F : FnP K "are_alike" "are_alike" s_are_alike [] f fd) (c_sight_of : Cal P w K mg base Z 8 "sight_of" sp_sight_of) : FnOk P w K mg base CX0 9 f fd ["app", "person", "one", "other"] (DSp K Z sp_are_alike) := by
  refine okF F sc_are_alike spV_mono (by intro xs Q h; first | exact h.1 ▸ rfl | (obtain ⟨a, rfl, _⟩ := h; rfl) | (obtain ⟨a, b, rfl, _⟩ := h; rfl) | (obtain ⟨a, b, c, rfl, _⟩ := h; rfl) | (obtain ⟨rfl, _⟩ := h; rfl)) ⟨w_are_alike, fun cdv A outer s H E B0 H0 hr => ?d, fin_are_alike⟩
  have hu := hr.units
  have nd := sc_are_alike.nd
  exact (ds_one (ds_ret (de_cmp (o_eq hu) m_eq (de_call c_sight_of hr rfl (da_cons (de_var 0) (da_cons (de_var 1) (da_cons (de_var 2) da_nil)))) (de_call c_sight_of hr rfl (da_cons (de_var 0) (da_cons (de_var 1) (da_cons (de_var 3) da_nil)))))))
theorem sc_tells_nothing : FnScope ["app", "ask"] ["app", "ask"] (defScope s_tells_nothing) := ⟨rfl, rfl, rfl, by decide +kernel, rfl, by decide +kernel, by decide +kernel⟩
theorem bn_tells_nothing {K : PySem.W.Frag} {f : Addr} {fd : FuncData} (F : FnP K "tells_nothing" "tells_nothing" s_tells_nothing [] f fd) : Binds K fd ["app", "ask"] [] := FunD.bindsN F fun _ _ _ _ _ _ us hl => match us, hl with | [_, _], _ => rfl
theorem ok_tells_nothing {Z : Res} {f : Addr} {fd : FuncData} (T : Txt mg) (F : FnP K "tells_nothing" "tells_nothing" s_tells_nothing [] f fd) (c_ask_ways : Cal P w K mg base Z 12 "ask_ways" sp_ask_ways) : FnOk P w K mg base CX0 13 f fd ["app", "ask"] (DSp K Z sp_tells_nothing) := by
  refine okF F sc_tells_nothing spV_mono (by intro xs Q h; first | exact h.1 ▸ rfl | (obtain ⟨a, rfl, _⟩ := h; rfl) | (obtain ⟨a, b, rfl, _⟩ := h; rfl) | (obtain ⟨a, b, c, rfl, _⟩ := h; rfl) | (obtain ⟨rfl, _⟩ := h; rfl)) ⟨w_tells_nothing, fun cdv A outer s H E B0 H0 hr => ?d, fin_tells_nothing⟩
  have hu := hr.units
  have nd := sc_tells_nothing.nd
  exact (ds_one (ds_ret (de_cmp (o_eq hu) m_eq (de_call c_ask_ways hr rfl (da_cons (de_var 0) (da_cons (de_var 1) da_nil))) (de_tup da_nil))))
theorem sc__law_look : FnScope ["barn", "fields", "badge", "field", "term", "kind"] ["barn", "fields", "badge"] (defScope s__law_look) := ⟨rfl, rfl, rfl, by decide +kernel, rfl, by decide +kernel, by decide +kernel⟩
theorem bn__law_look {K : PySem.W.Frag} {f : Addr} {fd : FuncData} (F : FnP K "_law_look" "_law_look" s__law_look [] f fd) : Binds K fd ["barn", "fields", "badge"] [] := FunD.bindsN F fun _ _ _ _ _ _ us hl => match us, hl with | [_, _, _], _ => rfl
theorem ok__law_look {Z : Res} {f : Addr} {fd : FuncData} {b : Addr} (T : Txt mg) (F : FnP K "_law_look" "_law_look" s__law_look [] f fd) (c__law_bale : Cal P w K mg base Z 1 "_law_bale" (sp__law_bale b)) (c__law_door : Cal P w K mg base Z 2 "_law_door" (sp__law_door b)) : FnOk P w K mg base CX0 3 f fd ["barn", "fields", "badge"] (DSp K Z (sp__law_look b)) := by
  refine okF F sc__law_look mono__law_look (by intro xs Q h; first | exact h.1 ▸ rfl | (obtain ⟨a, rfl, _⟩ := h; rfl) | (obtain ⟨a, b, rfl, _⟩ := h; rfl) | (obtain ⟨a, b, c, rfl, _⟩ := h; rfl) | (obtain ⟨rfl, _⟩ := h; rfl)) ⟨(w__law_look b), fun cdv A outer s H E B0 H0 hr => ?d, (fin__law_look b)⟩
  have hu := hr.units
  have nd := sc__law_look.nd
  exact (ds_cons (ds_set 3 nd (de_call c__law_bale hr rfl (da_cons (de_var 0) (da_cons (de_var 1) da_nil))))
    (ds_cons (ds_set 4 nd (de_tup (da_cons de_str (da_cons (de_ix (de_lst (da_cons de_int (da_cons de_int (da_cons (de_op o_pow m_pow de_int de_int) (da_cons (de_neg de_int) da_nil))))) (de_call c__law_bale hr rfl (da_cons (de_var 0) (da_cons de_int da_nil)))) da_nil))))
    (ds_cons (ds_set 5 nd (de_call c__law_door hr rfl (da_cons (de_var 0) (da_cons de_int (da_cons de_int da_nil)))))
    (ds_cons (ds_if (DW.dt (dw_and (dt_cmp (o_eq hu) m_eq (de_var 5) de_int) (dw_and1 (dt_cmp o_gt m_gt (de_var 1) de_int)))) (ds_one (ds_set 4 nd (de_tup (da_cons de_str (da_cons (de_op o_mod m_mod (de_op o_add m_add (de_op o_add m_add (de_var 3) de_int) (de_call c__law_bale hr rfl (da_cons (de_var 0) (da_cons (de_op o_sub m_sub (de_var 1) de_int) da_nil)))) (de_var 1)) da_nil))))) ds_nil)
    (ds_cons (ds_if (DW.dt (dw_and (dt_cmp o_gt m_gt (de_var 5) de_int) (dw_and1 (dt_cmp o_gt m_gt (de_var 2) de_int)))) (ds_one (ds_set 4 nd (de_tup (da_cons de_str (da_cons (de_call c__law_bale hr rfl (da_cons (de_var 0) (da_cons (de_var 2) da_nil))) da_nil))))) ds_nil)
    (ds_one (ds_ret (de_tup (da_cons (de_ix (de_tup (da_cons de_str (da_cons de_str da_nil))) (de_op o_fdiv m_fdiv (de_call c__law_door hr rfl (da_cons (de_var 0) (da_cons de_int (da_cons de_int da_nil)))) de_int)) (da_cons (de_var 3) (da_cons (de_var 4) da_nil)))))))))))
theorem sc__law_lot : FnScope ["barn", "fields", "badge", "many", "look"] ["barn", "fields", "badge", "many"] (defScope s__law_lot) := ⟨rfl, rfl, rfl, by decide +kernel, rfl, by decide +kernel, by decide +kernel⟩
theorem bn__law_lot {K : PySem.W.Frag} {f : Addr} {fd : FuncData} (F : FnP K "_law_lot" "_law_lot" s__law_lot [] f fd) : Binds K fd ["barn", "fields", "badge", "many"] [] := FunD.bindsN F fun _ _ _ _ _ _ us hl => match us, hl with | [_, _, _, _], _ => rfl
theorem ok__law_lot {Z : Res} {f : Addr} {fd : FuncData} {b : Addr} (T : Txt mg) (F : FnP K "_law_lot" "_law_lot" s__law_lot [] f fd) (c__law_look : Cal P w K mg base Z 3 "_law_look" (sp__law_look b)) : FnOk P w K mg base CX0 4 f fd ["barn", "fields", "badge", "many"] (DSp K Z (sp__law_lot b)) := by
  refine okF F sc__law_lot mono__law_lot (by intro xs Q h; first | exact h.1 ▸ rfl | (obtain ⟨a, rfl, _⟩ := h; rfl) | (obtain ⟨a, b, rfl, _⟩ := h; rfl) | (obtain ⟨a, b, c, rfl, _⟩ := h; rfl) | (obtain ⟨rfl, _⟩ := h; rfl)) ⟨(w__law_lot b), fun cdv A outer s H E B0 H0 hr => ?d, (fin__law_lot b)⟩
  have hu := hr.units
  have nd := sc__law_lot.nd
  exact (ds_one (ds_ret (de_ty b_tuple (mono_one m_tup) rfl T.tuple (by decide +kernel) (da_cons (de_lc [("look", 4)] nd (DI.e (di_rng1 rfl T.range (de_var 3))) (by kernel_rfl) (fun _ _ _ _ _ => (dg_nm 4 nd)) (fun _ _ _ _ _ => dts_nil) (fun _ _ _ _ _ => (de_call c__law_look hr rfl (da_cons (de_var 0) (da_cons (de_var 1) (da_cons (de_var 2) da_nil)))))) da_nil))))
theorem sc__law_other : FnScope ["look"] ["look"] (defScope s__law_other) := ⟨rfl, rfl, rfl, by decide +kernel, rfl, by decide +kernel, by decide +kernel⟩
theorem bn__law_other {K : PySem.W.Frag} {f : Addr} {fd : FuncData} (F : FnP K "_law_other" "_law_other" s__law_other [] f fd) : Binds K fd ["look"] [] := FunD.bindsN F fun _ _ _ _ _ _ us hl => match us, hl with | [_], _ => rfl
theorem ok__law_other {Z : Res} {f : Addr} {fd : FuncData} (T : Txt mg) (F : FnP K "_law_other" "_law_other" s__law_other [] f fd) : FnOk P w K mg base CX0 1 f fd ["look"] (DSp K Z sp__law_other) := by
  refine okF F sc__law_other spV_mono (by intro xs Q h; first | exact h.1 ▸ rfl | (obtain ⟨a, rfl, _⟩ := h; rfl) | (obtain ⟨a, b, rfl, _⟩ := h; rfl) | (obtain ⟨a, b, c, rfl, _⟩ := h; rfl) | (obtain ⟨rfl, _⟩ := h; rfl)) ⟨w__law_other, fun cdv A outer s H E B0 H0 hr => ?d, fin__law_other⟩
  have hu := hr.units
  have nd := sc__law_other.nd
  exact (ds_cons (ds_if (dt_cmp (o_eq hu) m_eq (de_ix (de_ix (de_var 0) de_int) de_int) de_str) (ds_one (ds_ret (de_tup (da_cons (de_ix (de_var 0) de_int) (da_cons (de_ix (de_ix (de_var 0) de_int) de_int) (da_cons (de_tup (da_cons de_str (da_cons (de_ix (de_var 0) de_int) da_nil))) da_nil)))))) ds_nil)
    (ds_one (ds_ret (de_var 0))))
theorem sc__law_second : FnScope ["barn", "lot", "fields", "badge", "way", "at", "look"] ["barn", "lot", "fields", "badge"] (defScope s__law_second) := ⟨rfl, rfl, rfl, by decide +kernel, rfl, by decide +kernel, by decide +kernel⟩
theorem bn__law_second {K : PySem.W.Frag} {f : Addr} {fd : FuncData} (F : FnP K "_law_second" "_law_second" s__law_second [] f fd) : Binds K fd ["barn", "lot", "fields", "badge"] [] := FunD.bindsN F fun _ _ _ _ _ _ us hl => match us, hl with | [_, _, _, _], _ => rfl
theorem ok__law_second {Z : Res} {f : Addr} {fd : FuncData} {b : Addr} (T : Txt mg) (F : FnP K "_law_second" "_law_second" s__law_second [] f fd) (c__law_bale : Cal P w K mg base Z 1 "_law_bale" (sp__law_bale b)) (c__law_lot : Cal P w K mg base Z 4 "_law_lot" (sp__law_lot b)) (c__law_other : Cal P w K mg base Z 1 "_law_other" sp__law_other) : FnOk P w K mg base CX0 5 f fd ["barn", "lot", "fields", "badge"] (DSp K Z (sp__law_second b)) := by
  refine okF F sc__law_second mono__law_second (by intro xs Q h; first | exact h.1 ▸ rfl | (obtain ⟨a, rfl, _⟩ := h; rfl) | (obtain ⟨a, b, rfl, _⟩ := h; rfl) | (obtain ⟨a, b, c, rfl, _⟩ := h; rfl) | (obtain ⟨rfl, _⟩ := h; rfl)) ⟨(w__law_second b), fun cdv A outer s H E B0 H0 hr => ?d, (fin__law_second b)⟩
  have hu := hr.units
  have nd := sc__law_second.nd
  exact (ds_cons (ds_set 4 nd (de_call c__law_bale hr rfl (da_cons (de_var 0) (da_cons de_int da_nil))))
    (ds_cons (ds_if (dt_cmp (o_eq hu) m_eq (de_var 4) de_int) (ds_one (ds_ret (de_slice (de_var 1) (do_some de_int) do_none))) ds_nil)
    (ds_cons (ds_if (dt_cmp (o_eq hu) m_eq (de_var 4) de_int) (ds_one (ds_ret (de_slice (de_op o_add m_add (de_var 1) (de_call c__law_lot hr rfl (da_cons (de_var 0) (da_cons (de_var 2) (da_cons (de_var 3) (da_cons de_int da_nil)))))) do_none (do_some (de_blt (b_min hu rfl) (mono_twoB m_min) rfl T.min (by decide +kernel) (da_cons de_int (da_cons (de_op o_add m_add (de_blt b_len (mono_one m_len) rfl T.len (by decide +kernel) (da_cons (de_var 1) da_nil)) de_int) da_nil))))))) ds_nil)
    (ds_cons (ds_if (dt_cmp (o_eq hu) m_eq (de_var 4) de_int) (ds_one (ds_ret (de_ty b_tuple (mono_one m_tup) rfl T.tuple (by decide +kernel) (da_cons (de_lc [("look", 6)] nd (die_seq (de_step (de_var 1) (de_neg de_int))) (by kernel_rfl) (fun _ _ _ _ _ => (dg_nm 6 nd)) (fun _ _ _ _ _ => dts_nil) (fun _ _ _ _ _ => (de_call c__law_other hr rfl (da_cons (de_var 6) da_nil)))) da_nil)))) ds_nil)
    (ds_cons (ds_if (dt_cmp (o_eq hu) m_eq (de_var 4) de_int) (ds_cons (ds_set 5 nd (de_call c__law_bale hr rfl (da_cons (de_var 0) (da_cons (de_var 2) da_nil))))
      (ds_one (ds_ret (de_tup (da_cons (de_tup (da_cons de_str (da_cons (de_var 5) (da_cons (de_tup (da_cons de_str (da_cons de_int da_nil))) da_nil)))) (da_cons (de_tup (da_cons de_str (da_cons (de_var 5) (da_cons (de_tup (da_cons de_str (da_cons de_int da_nil))) da_nil)))) da_nil)))))) ds_nil)
    (ds_cons (ds_if (DW.dt (dw_and (dt_cmp (o_eq hu) m_eq (de_var 4) de_int) (dw_and (dt_cmp o_gt m_gt (de_blt b_len (mono_one m_len) rfl T.len (by decide +kernel) (da_cons (de_var 1) da_nil)) de_int) (dw_and (dt_cmp (o_eq hu) m_eq (de_ix (de_ix (de_var 1) de_int) de_int) de_str) (dw_and1 (dt_cmp (o_eq hu) m_eq (de_ix (de_ix (de_ix (de_var 1) de_int) de_int) de_int) de_str)))))) (ds_one (ds_ret (de_tup (da_cons (de_tup (da_cons de_str (da_cons (de_ix (de_ix (de_var 1) de_int) de_int) (da_cons (de_tup (da_cons de_str (da_cons (de_op o_sub m_sub (de_ix (de_ix (de_ix (de_var 1) de_int) de_int) de_int) de_int) da_nil))) da_nil)))) da_nil)))) ds_nil)
    (ds_cons (ds_if (dt_cmp (o_eq hu) m_eq (de_var 4) de_int) (ds_one (ds_ret (de_tup da_nil))) ds_nil)
    (ds_one (ds_ret (de_call c__law_lot hr rfl (da_cons (de_var 0) (da_cons (de_var 2) (da_cons (de_var 3) (da_cons (de_call c__law_bale hr rfl (da_cons (de_var 0) (da_cons de_int da_nil))) da_nil))))))))))))))
theorem sc__law_app : FnScope ["barn", "tables", "at", "roles", "asks", "badge", "windows", "table", "fields", "lot", "lots", "shown", "field", "place"] ["barn"] (defScope s__law_app) := ⟨rfl, rfl, rfl, by decide +kernel, rfl, by decide +kernel, by decide +kernel⟩
theorem bn__law_app {K : PySem.W.Frag} {f : Addr} {fd : FuncData} (F : FnP K "_law_app" "_law_app" s__law_app [] f fd) : Binds K fd ["barn"] [] := FunD.bindsN F fun _ _ _ _ _ _ us hl => match us, hl with | [_], _ => rfl
theorem ok__law_app {Z : Res} {f : Addr} {fd : FuncData} {b : Addr} (T : Txt mg) (F : FnP K "_law_app" "_law_app" s__law_app [] f fd) (c__law_bale : Cal P w K mg base Z 1 "_law_bale" (sp__law_bale b)) (c__law_door : Cal P w K mg base Z 2 "_law_door" (sp__law_door b)) (c__law_lot : Cal P w K mg base Z 4 "_law_lot" (sp__law_lot b)) (c__law_second : Cal P w K mg base Z 5 "_law_second" (sp__law_second b)) : FnOk P w K mg base CX0 6 f fd ["barn"] (DSp K Z (sp__law_app b)) := by
  refine okF F sc__law_app mono__law_app (by intro xs Q h; first | exact h.1 ▸ rfl | (obtain ⟨a, rfl, _⟩ := h; rfl) | (obtain ⟨a, b, rfl, _⟩ := h; rfl) | (obtain ⟨a, b, c, rfl, _⟩ := h; rfl) | (obtain ⟨rfl, _⟩ := h; rfl)) ⟨(w__law_app b), fun cdv A outer s H E B0 H0 hr => ?d, (fin__law_app b)⟩
  have hu := hr.units
  have nd := sc__law_app.nd
  exact (ds_cons (ds_own 1 nd da_nil)
    (ds_cons (ds_for (di_rng1 rfl T.range (de_op o_add m_add de_int (de_call c__law_door hr rfl (da_cons (de_var 0) (da_cons de_int (da_cons de_int da_nil)))))) (dg_nm 2 nd)
      (ds_one (ds_app 1 (de_tup (da_cons (de_op o_add m_add de_str (de_ix de_str (de_var 2))) (da_cons (de_ty b_tuple (mono_one m_tup) rfl T.tuple (by decide +kernel) (da_cons (de_lc [("field", 12)] nd (DI.e (di_rng1 rfl T.range (de_op o_add m_add de_int (de_call c__law_bale hr rfl (da_cons (de_var 0) (da_cons de_int da_nil)))))) (by kernel_rfl) (fun _ _ _ _ _ => (dg_nm 12 nd)) (fun _ _ _ _ _ => dts_nil) (fun _ _ _ _ _ => (de_op o_add m_add de_str (de_ix de_str (de_var 12))))) da_nil)) da_nil))))))
    (dss_frz 1 (ds_cons (ds_own 3 nd da_nil)
    (ds_cons (ds_own 4 nd da_nil)
    (ds_cons (ds_for (di_rng1 rfl T.range (de_op o_add m_add de_int (de_call c__law_door hr rfl (da_cons (de_var 0) (da_cons de_int (da_cons de_int da_nil)))))) (dg_nm 2 nd)
      (ds_cons (ds_set 5 nd (de_call c__law_door hr rfl (da_cons (de_var 0) (da_cons de_int (da_cons de_int da_nil)))))
      (ds_cons (ds_own 6 nd da_nil)
      (ds_cons (ds_for (di_seq (de_var 1)) (dg_tp (dgs_cons 7 nd (dgs_cons 8 nd dgs_nil)))
        (ds_cons (ds_set 9 nd (de_call c__law_lot hr rfl (da_cons (de_var 0) (da_cons (de_blt b_len (mono_one m_len) rfl T.len (by decide +kernel) (da_cons (de_var 8) da_nil)) (da_cons (de_var 5) (da_cons (de_call c__law_door hr rfl (da_cons (de_var 0) (da_cons de_int (da_cons de_int da_nil)))) da_nil))))))
        (ds_cons (ds_set 10 nd (de_ix (de_lst (da_cons (de_tup (da_cons (de_var 9) da_nil)) (da_cons (de_tup (da_cons (de_var 9) (da_cons (de_call c__law_second hr rfl (da_cons (de_var 0) (da_cons (de_var 9) (da_cons (de_blt b_len (mono_one m_len) rfl T.len (by decide +kernel) (da_cons (de_var 8) da_nil)) (da_cons (de_var 5) da_nil))))) da_nil))) da_nil))) (de_ty b_int (mono_one m_int) rfl T.int (by decide +kernel) (da_cons (de_cmp o_gt m_gt (de_call c__law_bale hr rfl (da_cons (de_var 0) (da_cons de_int da_nil))) de_int) da_nil))))
        (ds_cons (ds_if (dt_cmp (o_eq hu) m_eq (de_call c__law_bale hr rfl (da_cons (de_var 0) (da_cons de_int da_nil))) de_int) (ds_one (ds_set 10 nd (de_op o_add m_add (de_tup (da_cons (de_tup (da_cons (de_tup (da_cons de_str (da_cons de_int (da_cons (de_tup (da_cons de_str (da_cons de_int da_nil))) da_nil)))) (da_cons (de_tup (da_cons de_str (da_cons de_int (da_cons (de_tup (da_cons de_str (da_cons de_int da_nil))) da_nil)))) da_nil))) da_nil)) (de_slice (de_var 10) (do_some de_int) do_none)))) ds_nil)
        (ds_cons (ds_set 11 nd (de_ty b_tuple (mono_one m_tup) rfl T.tuple (by decide +kernel) (da_cons (de_lc [("field", 12)] nd (DI.e (di_rng1 rfl T.range (de_blt b_len (mono_one m_len) rfl T.len (by decide +kernel) (da_cons (de_var 8) da_nil)))) (by kernel_rfl) (fun _ _ _ _ _ => (dg_nm 12 nd)) (fun _ _ _ _ _ => (dts_one (dt_cmp (o_eq hu) m_eq (de_call c__law_bale hr rfl (da_cons (de_var 0) (da_cons de_int da_nil))) de_int))) (fun _ _ _ _ _ => (de_var 12))) da_nil)))
        (ds_cons (ds_if (dt_cmp o_gt m_gt (de_call c__law_bale hr rfl (da_cons (de_var 0) (da_cons de_int da_nil))) de_int) (ds_one (ds_app 6 (de_tup (da_cons (de_var 7) (da_cons (de_step (de_var 10) (de_op o_sub m_sub de_int (de_op o_mul m_mul de_int (de_call c__law_bale hr rfl (da_cons (de_var 0) (da_cons de_int da_nil)))))) (da_cons (de_var 11) da_nil)))))) ds_nil)
        (ds_one (ds_if (dt_cmp o_lt m_lt (de_blt b_len (mono_one m_len) rfl T.len (by decide +kernel) (da_cons (de_var 4) da_nil)) de_int) (ds_one (ds_app 4 (de_tup (da_cons (de_op o_add m_add de_str (de_ix de_str (de_blt b_len (mono_one m_len) rfl T.len (by decide +kernel) (da_cons (de_var 4) da_nil)))) (da_cons (de_op o_add m_add de_str (de_ix de_str (de_var 2))) (da_cons (de_tup da_nil) (da_cons (de_tup (da_cons (de_var 7) da_nil)) (da_cons de_non (da_cons (de_tup da_nil) (da_cons (de_tup (da_cons de_str da_nil)) da_nil)))))))))) ds_nil))))))))
      (dss_frz 6 (ds_one (ds_app 3 (de_tup (da_cons (de_op o_add m_add de_str (de_ix de_str (de_var 2))) (da_cons (de_ty b_tuple (mono_one m_tup) rfl T.tuple (by decide +kernel) (da_cons (de_lc [("place", 13)] nd (DI.e (di_rng1 rfl T.range (de_var 5))) (by kernel_rfl) (fun _ _ _ _ _ => (dg_nm 13 nd)) (fun _ _ _ _ _ => dts_nil) (fun _ _ _ _ _ => (de_op o_add m_add de_str (de_ix de_str (de_var 13))))) da_nil)) (da_cons (de_ty b_tuple (mono_one m_tup) rfl T.tuple (by decide +kernel) (da_cons (de_step (de_var 6) (de_neg de_int)) da_nil)) da_nil)))))))))))
    (dss_frz 3 (dss_frz 4 (ds_one (ds_ret (de_tup (da_cons (de_ty b_tuple (mono_one m_tup) rfl T.tuple (by decide +kernel) (da_cons (de_var 1) da_nil)) (da_cons (de_ty b_tuple (mono_one m_tup) rfl T.tuple (by decide +kernel) (da_cons (de_var 3) da_nil)) (da_cons (de_ty b_tuple (mono_one m_tup) rfl T.tuple (by decide +kernel) (da_cons (de_var 4) da_nil)) (da_cons (de_tup da_nil) da_nil)))))))))))))))
theorem sc__law_facts : FnScope ["lot", "opposite_v", "facts", "sign", "field", "term", "other"] ["lot", "opposite_v"] (defScope s__law_facts) := ⟨rfl, rfl, rfl, by decide +kernel, rfl, by decide +kernel, by decide +kernel⟩
theorem bn__law_facts {K : PySem.W.Frag} {f : Addr} {fd : FuncData} (F : FnP K "_law_facts" "_law_facts" s__law_facts [] f fd) : Binds K fd ["lot", "opposite_v"] [] := FunD.bindsN F fun _ _ _ _ _ _ us hl => match us, hl with | [_, _], _ => rfl
theorem ok__law_facts {Z : Res} {f : Addr} {fd : FuncData} (T : Txt mg) (F : FnP K "_law_facts" "_law_facts" s__law_facts [] f fd) : FnOk P w K mg base CX0 1 f fd ["lot", "opposite_v"] (DSp K Z sp__law_facts) := by
  refine okF F sc__law_facts spV_mono (by intro xs Q h; first | exact h.1 ▸ rfl | (obtain ⟨a, rfl, _⟩ := h; rfl) | (obtain ⟨a, b, rfl, _⟩ := h; rfl) | (obtain ⟨a, b, c, rfl, _⟩ := h; rfl) | (obtain ⟨rfl, _⟩ := h; rfl)) ⟨w__law_facts, fun cdv A outer s H E B0 H0 hr => ?d, fin__law_facts⟩
  have hu := hr.units
  have nd := sc__law_facts.nd
  exact (ds_cons (ds_own 2 nd da_nil)
    (ds_cons (ds_for (di_seq (de_var 0)) (dg_tp (dgs_cons 3 nd (dgs_cons 4 nd (dgs_cons 5 nd dgs_nil))))
      (ds_cons (ds_set 6 nd (de_menu (pp_cons (de_tup (da_cons de_str (da_cons (de_ix (de_var 5) de_int) da_nil))) (pp_cons (de_tup (da_cons de_str (da_cons (de_ix (de_var 5) de_int) da_nil))) (pp_cons (de_tup (da_cons de_str (da_cons (de_ix (de_var 5) de_int) da_nil))) pp_nil))) (de_ix (de_var 5) de_int) (hr.units1) (by decide) pmono__law_facts))
      (ds_one (ds_app 2 (de_tup (da_cons (de_ix (de_tup (da_cons de_str (da_cons de_str da_nil))) (de_ty b_int (mono_one m_int) rfl T.int (by decide +kernel) (da_cons (de_cmp (o_ne hu) m_ne (de_cmp (o_eq hu) m_eq (de_var 3) de_str) (de_var 1)) da_nil))) (da_cons (de_tup (da_cons de_str (da_cons (de_var 4) da_nil))) (da_cons (de_var 6) da_nil))))))))
    (dss_frz 2 (ds_one (ds_ret (de_var 2))))))
end
end K85

set_option maxRecDepth 100000
set_option maxHeartbeats 4000000
namespace K85
open PySem L2 DL
section
variable {P : Program} {w : World} {K : PySem.W.Frag} {mg : Str → Option Value} {base : Heap} {C_WayMaker : Addr}
theorem sc__law_can : FnScope ["facts", "lots", "sign", "one", "other", "lot", "term", "joined"] ["facts"] (defScope s__law_can) := ⟨rfl, rfl, rfl, by decide +kernel, rfl, by decide +kernel, by decide +kernel⟩
theorem bn__law_can {K : PySem.W.Frag} {f : Addr} {fd : FuncData} (F : FnP K "_law_can" "_law_can" s__law_can [] f fd) : Binds K fd ["facts"] [] := FunD.bindsN F fun _ _ _ _ _ _ us hl => match us, hl with | [_], _ => rfl
theorem ok__law_can {Z : Res} {f : Addr} {fd : FuncData} (T : Txt mg) (F : FnP K "_law_can" "_law_can" s__law_can [] f fd) : FnOk P w K mg base CX0 1 f fd ["facts"] (DSp K Z sp__law_can) := by
  refine okF F sc__law_can spV_mono (by intro xs Q h; first | exact h.1 ▸ rfl | (obtain ⟨a, rfl, _⟩ := h; rfl) | (obtain ⟨a, b, rfl, _⟩ := h; rfl) | (obtain ⟨a, b, c, rfl, _⟩ := h; rfl) | (obtain ⟨rfl, _⟩ := h; rfl)) ⟨w__law_can, fun cdv A outer s H E B0 H0 hr => ?d, fin__law_can⟩
  have hu := hr.units
  have nd := sc__law_can.nd
  exact (ds_cons (ds_own 1 nd da_nil)
    (ds_cons (ds_for (di_seq (de_var 0)) (dg_tp (dgs_cons 2 nd (dgs_cons 3 nd (dgs_cons 4 nd dgs_nil))))
      (ds_one (ds_for (di_seq (de_tup (da_cons (de_var 3) (da_cons (de_var 4) da_nil)))) (dg_nm 6 nd)
        (ds_one (ds_if (dt_cmp (o_eq hu) m_eq (de_blt b_len (mono_one m_len) rfl T.len (by decide +kernel) (da_cons (de_lc [("lot", 5)] nd (die_seq (de_var 1)) (by kernel_rfl) (fun _ _ _ _ _ => (dg_nm 5 nd)) (fun _ _ _ _ _ => (dts_one (dt_cmp (o_in hu) m_in (de_var 6) (de_var 5)))) (fun _ _ _ _ _ => (de_var 5))) da_nil)) de_int) (ds_one (ds_app 1 (de_lst (da_cons (de_var 6) da_nil)))) ds_nil)))))
    (dss_frz 1 (ds_cons (ds_for (di_seq (de_var 0)) (dg_tp (dgs_cons 2 nd (dgs_cons 3 nd (dgs_cons 4 nd dgs_nil))))
      (ds_one (ds_if (dt_cmp (o_eq hu) m_eq (de_var 2) de_str) (ds_cons (ds_set 7 nd (de_lst da_nil))
        (ds_cons (ds_for (di_seq (de_var 1)) (dg_nm 5 nd)
          (ds_one (ds_if (DW.dt (dw_or (dt_cmp (o_in hu) m_in (de_var 3) (de_var 5)) (dw_or1 (dt_cmp (o_in hu) m_in (de_var 4) (de_var 5))))) (ds_one (ds_set 7 nd (de_op o_add m_add (de_var 7) (de_var 5)))) ds_nil)))
        (ds_one (ds_set 1 nd (de_op o_add m_add (de_lc [("lot", 5)] nd (die_seq (de_var 1)) (by kernel_rfl) (fun _ _ _ _ _ => (dg_nm 5 nd)) (fun _ _ _ _ _ => (dts_one (DW.dt (dw_and (dt_cmp (o_nin hu) m_nin (de_var 3) (de_var 5)) (dw_and1 (dt_cmp (o_nin hu) m_nin (de_var 4) (de_var 5))))))) (fun _ _ _ _ _ => (de_var 5))) (de_lst (da_cons (de_var 7) da_nil))))))) ds_nil)))
    (ds_cons (ds_for (di_seq (de_var 1)) (dg_nm 5 nd)
      (ds_cons (ds_if (dt_cmp o_gt m_gt (de_blt b_len (mono_one m_len) rfl T.len (by decide +kernel) (da_cons (de_lc [("term", 6)] nd (die_seq (de_var 5)) (by kernel_rfl) (fun _ _ _ _ _ => (dg_nm 6 nd)) (fun _ _ _ _ _ => (dts_one (dt_cmp (o_eq hu) m_eq (de_ix (de_var 6) de_int) de_str))) (fun _ _ _ _ _ => (de_var 6))) da_nil)) de_int) (ds_one (ds_ret de_bl)) ds_nil)
      (ds_one (ds_for (di_seq (de_var 0)) (dg_tp (dgs_cons 2 nd (dgs_cons 3 nd (dgs_cons 4 nd dgs_nil))))
        (ds_one (ds_if (DW.dt (dw_and (dt_cmp (o_eq hu) m_eq (de_var 2) de_str) (dw_and (dt_cmp (o_in hu) m_in (de_var 3) (de_var 5)) (dw_and1 (dt_cmp (o_in hu) m_in (de_var 4) (de_var 5)))))) (ds_one (ds_ret de_bl)) ds_nil))))))
    (ds_one (ds_ret de_bl)))))))
theorem sc__law_inside : FnScope ["lot", "other", "look"] ["lot", "other"] (defScope s__law_inside) := ⟨rfl, rfl, rfl, by decide +kernel, rfl, by decide +kernel, by decide +kernel⟩
theorem bn__law_inside {K : PySem.W.Frag} {f : Addr} {fd : FuncData} (F : FnP K "_law_inside" "_law_inside" s__law_inside [] f fd) : Binds K fd ["lot", "other"] [] := FunD.bindsN F fun _ _ _ _ _ _ us hl => match us, hl with | [_, _], _ => rfl
theorem ok__law_inside {Z : Res} {f : Addr} {fd : FuncData} (T : Txt mg) (F : FnP K "_law_inside" "_law_inside" s__law_inside [] f fd) (c__law_can : Cal P w K mg base Z 1 "_law_can" sp__law_can) (c__law_facts : Cal P w K mg base Z 1 "_law_facts" sp__law_facts) : FnOk P w K mg base CX0 2 f fd ["lot", "other"] (DSp K Z sp__law_inside) := by
  refine okF F sc__law_inside spV_mono (by intro xs Q h; first | exact h.1 ▸ rfl | (obtain ⟨a, rfl, _⟩ := h; rfl) | (obtain ⟨a, b, rfl, _⟩ := h; rfl) | (obtain ⟨a, b, c, rfl, _⟩ := h; rfl) | (obtain ⟨rfl, _⟩ := h; rfl)) ⟨w__law_inside, fun cdv A outer s H E B0 H0 hr => ?d, fin__law_inside⟩
  have hu := hr.units
  have nd := sc__law_inside.nd
  exact (ds_cons (ds_for (di_seq (de_var 1)) (dg_nm 2 nd)
      (ds_one (ds_if (dt_tru (de_call c__law_can hr rfl (da_cons (de_op o_add m_add (de_call c__law_facts hr rfl (da_cons (de_var 0) (da_cons de_bl da_nil))) (de_call c__law_facts hr rfl (da_cons (de_lst (da_cons (de_var 2) da_nil)) (da_cons de_bl da_nil)))) da_nil))) (ds_one (ds_ret de_bl)) ds_nil)))
    (ds_one (ds_ret de_bl)))
theorem sc__law_spare : FnScope ["lots", "first", "second"] ["lots"] (defScope s__law_spare) := ⟨rfl, rfl, rfl, by decide +kernel, rfl, by decide +kernel, by decide +kernel⟩
theorem bn__law_spare {K : PySem.W.Frag} {f : Addr} {fd : FuncData} (F : FnP K "_law_spare" "_law_spare" s__law_spare [] f fd) : Binds K fd ["lots"] [] := FunD.bindsN F fun _ _ _ _ _ _ us hl => match us, hl with | [_], _ => rfl
theorem ok__law_spare {Z : Res} {f : Addr} {fd : FuncData} (T : Txt mg) (F : FnP K "_law_spare" "_law_spare" s__law_spare [] f fd) (c__law_can : Cal P w K mg base Z 1 "_law_can" sp__law_can) (c__law_facts : Cal P w K mg base Z 1 "_law_facts" sp__law_facts) (c__law_inside : Cal P w K mg base Z 2 "_law_inside" sp__law_inside) : FnOk P w K mg base CX0 3 f fd ["lots"] (DSp K Z sp__law_spare) := by
  refine okF F sc__law_spare spV_mono (by intro xs Q h; first | exact h.1 ▸ rfl | (obtain ⟨a, rfl, _⟩ := h; rfl) | (obtain ⟨a, b, rfl, _⟩ := h; rfl) | (obtain ⟨a, b, c, rfl, _⟩ := h; rfl) | (obtain ⟨rfl, _⟩ := h; rfl)) ⟨w__law_spare, fun cdv A outer s H E B0 H0 hr => ?d, fin__law_spare⟩
  have hu := hr.units
  have nd := sc__law_spare.nd
  exact (ds_cons (ds_if (dt_cmp o_lt m_lt (de_blt b_len (mono_one m_len) rfl T.len (by decide +kernel) (da_cons (de_var 0) da_nil)) de_int) (ds_one (ds_ret (de_tup da_nil))) ds_nil)
    (ds_cons (ds_set 1 nd (de_or (de_notT (de_call c__law_can hr rfl (da_cons (de_call c__law_facts hr rfl (da_cons (de_ix (de_var 0) de_int) (da_cons de_bl da_nil))) da_nil))) (de_one (de_call c__law_inside hr rfl (da_cons (de_ix (de_var 0) de_int) (da_cons (de_ix (de_var 0) de_int) da_nil))))))
    (ds_cons (ds_set 2 nd (de_or (de_notT (de_call c__law_can hr rfl (da_cons (de_call c__law_facts hr rfl (da_cons (de_ix (de_var 0) de_int) (da_cons de_bl da_nil))) da_nil))) (de_one (de_call c__law_inside hr rfl (da_cons (de_ix (de_var 0) de_int) (da_cons (de_ix (de_var 0) de_int) da_nil))))))
    (ds_cons (ds_if (dt_tru (de_var 2)) (ds_one (ds_ret (de_tup (da_cons de_int da_nil)))) ds_nil)
    (ds_one (ds_ret (de_op o_rep m_rep (de_tup (da_cons de_int da_nil)) (de_ty b_int (mono_one m_int) rfl T.int (by decide +kernel) (da_cons (de_var 1) da_nil)))))))))
theorem sc__law_idle : FnScope ["lots", "lot"] ["lots"] (defScope s__law_idle) := ⟨rfl, rfl, rfl, by decide +kernel, rfl, by decide +kernel, by decide +kernel⟩
theorem bn__law_idle {K : PySem.W.Frag} {f : Addr} {fd : FuncData} (F : FnP K "_law_idle" "_law_idle" s__law_idle [] f fd) : Binds K fd ["lots"] [] := FunD.bindsN F fun _ _ _ _ _ _ us hl => match us, hl with | [_], _ => rfl
theorem ok__law_idle {Z : Res} {f : Addr} {fd : FuncData} (T : Txt mg) (F : FnP K "_law_idle" "_law_idle" s__law_idle [] f fd) (c__law_can : Cal P w K mg base Z 1 "_law_can" sp__law_can) (c__law_facts : Cal P w K mg base Z 1 "_law_facts" sp__law_facts) : FnOk P w K mg base CX0 2 f fd ["lots"] (DSp K Z sp__law_idle) := by
  refine okF F sc__law_idle spV_mono (by intro xs Q h; first | exact h.1 ▸ rfl | (obtain ⟨a, rfl, _⟩ := h; rfl) | (obtain ⟨a, b, rfl, _⟩ := h; rfl) | (obtain ⟨a, b, c, rfl, _⟩ := h; rfl) | (obtain ⟨rfl, _⟩ := h; rfl)) ⟨w__law_idle, fun cdv A outer s H E B0 H0 hr => ?d, fin__law_idle⟩
  have hu := hr.units
  have nd := sc__law_idle.nd
  exact (ds_one (ds_ret (de_cmp (o_eq hu) m_eq (de_blt b_len (mono_one m_len) rfl T.len (by decide +kernel) (da_cons (de_lc [("lot", 1)] nd (die_seq (de_var 0)) (by kernel_rfl) (fun _ _ _ _ _ => (dg_nm 1 nd)) (fun _ _ _ _ _ => (dts_one (dt_tru (de_call c__law_can hr rfl (da_cons (de_call c__law_facts hr rfl (da_cons (de_var 1) (da_cons de_bl da_nil))) da_nil))))) (fun _ _ _ _ _ => (de_var 1))) da_nil)) de_int)))
theorem sc__law_trimmed : FnScope ["app", "roles", "name", "badge", "windows", "kept", "table", "lots", "shown", "spare", "at", "lot"] ["app"] (defScope s__law_trimmed) := ⟨rfl, rfl, rfl, by decide +kernel, rfl, by decide +kernel, by decide +kernel⟩
theorem bn__law_trimmed {K : PySem.W.Frag} {f : Addr} {fd : FuncData} (F : FnP K "_law_trimmed" "_law_trimmed" s__law_trimmed [] f fd) : Binds K fd ["app"] [] := FunD.bindsN F fun _ _ _ _ _ _ us hl => match us, hl with | [_], _ => rfl
theorem ok__law_trimmed {Z : Res} {f : Addr} {fd : FuncData} (T : Txt mg) (F : FnP K "_law_trimmed" "_law_trimmed" s__law_trimmed [] f fd) (c__law_idle : Cal P w K mg base Z 2 "_law_idle" sp__law_idle) (c__law_spare : Cal P w K mg base Z 3 "_law_spare" sp__law_spare) : FnOk P w K mg base CX0 4 f fd ["app"] (DSp K Z sp__law_trimmed) := by
  refine okF F sc__law_trimmed spV_mono (by intro xs Q h; first | exact h.1 ▸ rfl | (obtain ⟨a, rfl, _⟩ := h; rfl) | (obtain ⟨a, b, rfl, _⟩ := h; rfl) | (obtain ⟨a, b, c, rfl, _⟩ := h; rfl) | (obtain ⟨rfl, _⟩ := h; rfl)) ⟨w__law_trimmed, fun cdv A outer s H E B0 H0 hr => ?d, fin__law_trimmed⟩
  have hu := hr.units
  have nd := sc__law_trimmed.nd
  exact (ds_cons (ds_own 1 nd da_nil)
    (ds_cons (ds_for (di_seq (de_ix (de_var 0) de_int)) (dg_tp (dgs_cons 2 nd (dgs_cons 3 nd (dgs_cons 4 nd dgs_nil))))
      (ds_cons (ds_own 5 nd da_nil)
      (ds_cons (ds_for (di_seq (de_var 4)) (dg_tp (dgs_cons 6 nd (dgs_cons 7 nd (dgs_cons 8 nd dgs_nil))))
        (ds_cons (ds_set 9 nd (de_call c__law_spare hr rfl (da_cons (de_var 7) da_nil)))
        (ds_one (ds_if (dt_not (dt_tru (de_call c__law_idle hr rfl (da_cons (de_var 7) da_nil)))) (ds_one (ds_app 5 (de_tup (da_cons (de_var 6) (da_cons (de_ty b_tuple (mono_one m_tup) rfl T.tuple (by decide +kernel) (da_cons (de_lc [("at", 10), ("lot", 11)] nd (DI.e (di_enum rfl T.enumerate (de_var 7))) (by kernel_rfl) (fun _ _ _ _ _ => (dg_tp (dgs_cons 10 nd (dgs_cons 11 nd dgs_nil)))) (fun _ _ _ _ _ => (dts_one (dt_cmp (o_nin hu) m_nin (de_var 10) (de_var 9)))) (fun _ _ _ _ _ => (de_var 11))) da_nil)) (da_cons (de_var 8) da_nil)))))) ds_nil))))
      (dss_frz 5 (ds_one (ds_app 1 (de_tup (da_cons (de_var 2) (da_cons (de_var 3) (da_cons (de_ty b_tuple (mono_one m_tup) rfl T.tuple (by decide +kernel) (da_cons (de_var 5) da_nil)) da_nil))))))))))
    (dss_frz 1 (ds_one (ds_ret (de_tup (da_cons (de_ix (de_var 0) de_int) (da_cons (de_ty b_tuple (mono_one m_tup) rfl T.tuple (by decide +kernel) (da_cons (de_var 1) da_nil)) (da_cons (de_ix (de_var 0) de_int) (da_cons (de_ix (de_var 0) de_int) da_nil))))))))))
theorem sc__law_unseen : FnScope ["lots", "ways", "lot", "more", "way", "look"] ["lots"] (defScope s__law_unseen) := ⟨rfl, rfl, rfl, by decide +kernel, rfl, by decide +kernel, by decide +kernel⟩
theorem bn__law_unseen {K : PySem.W.Frag} {f : Addr} {fd : FuncData} (F : FnP K "_law_unseen" "_law_unseen" s__law_unseen [] f fd) : Binds K fd ["lots"] [] := FunD.bindsN F fun _ _ _ _ _ _ us hl => match us, hl with | [_], _ => rfl
theorem ok__law_unseen {Z : Res} {f : Addr} {fd : FuncData} (T : Txt mg) (F : FnP K "_law_unseen" "_law_unseen" s__law_unseen [] f fd) (c__law_can : Cal P w K mg base Z 1 "_law_can" sp__law_can) (c__law_facts : Cal P w K mg base Z 1 "_law_facts" sp__law_facts) : FnOk P w K mg base CX0 2 f fd ["lots"] (DSp K Z sp__law_unseen) := by
  refine okF F sc__law_unseen spV_mono (by intro xs Q h; first | exact h.1 ▸ rfl | (obtain ⟨a, rfl, _⟩ := h; rfl) | (obtain ⟨a, b, rfl, _⟩ := h; rfl) | (obtain ⟨a, b, c, rfl, _⟩ := h; rfl) | (obtain ⟨rfl, _⟩ := h; rfl)) ⟨w__law_unseen, fun cdv A outer s H E B0 H0 hr => ?d, fin__law_unseen⟩
  have hu := hr.units
  have nd := sc__law_unseen.nd
  exact (ds_cons (ds_set 1 nd (de_lst (da_cons (de_lst da_nil) da_nil)))
    (ds_cons (ds_for (di_seq (de_var 0)) (dg_nm 2 nd)
      (ds_cons (ds_set 3 nd (de_lst da_nil))
      (ds_cons (ds_for (di_seq (de_var 1)) (dg_nm 4 nd)
        (ds_one (ds_set 3 nd (de_op o_add m_add (de_var 3) (de_lc [("look", 5)] nd (die_seq (de_var 2)) (by kernel_rfl) (fun _ _ _ _ _ => (dg_nm 5 nd)) (fun _ _ _ _ _ => dts_nil) (fun _ _ _ _ _ => (de_op o_add m_add (de_var 4) (de_call c__law_facts hr rfl (da_cons (de_lst (da_cons (de_var 5) da_nil)) (da_cons de_bl da_nil))))))))))
      (ds_one (ds_set 1 nd (de_var 3))))))
    (ds_one (ds_ret (de_cmp o_gt m_gt (de_blt b_len (mono_one m_len) rfl T.len (by decide +kernel) (da_cons (de_lc [("way", 4)] nd (die_seq (de_var 1)) (by kernel_rfl) (fun _ _ _ _ _ => (dg_nm 4 nd)) (fun _ _ _ _ _ => (dts_one (dt_tru (de_call c__law_can hr rfl (da_cons (de_var 4) da_nil))))) (fun _ _ _ _ _ => (de_var 4))) da_nil)) de_int)))))
theorem sc__law_value : FnScope ["term", "row", "badge"] ["term", "row", "badge"] (defScope s__law_value) := ⟨rfl, rfl, rfl, by decide +kernel, rfl, by decide +kernel, by decide +kernel⟩
theorem bn__law_value {K : PySem.W.Frag} {f : Addr} {fd : FuncData} (F : FnP K "_law_value" "_law_value" s__law_value [] f fd) : Binds K fd ["term", "row", "badge"] [] := FunD.bindsN F fun _ _ _ _ _ _ us hl => match us, hl with | [_, _, _], _ => rfl
theorem ok__law_value {Z : Res} {f : Addr} {fd : FuncData} (T : Txt mg) (F : FnP K "_law_value" "_law_value" s__law_value [] f fd) : FnOk P w K mg base CX0 1 f fd ["term", "row", "badge"] (DSp K Z sp__law_value) := by
  refine okF F sc__law_value spV_mono (by intro xs Q h; first | exact h.1 ▸ rfl | (obtain ⟨a, rfl, _⟩ := h; rfl) | (obtain ⟨a, b, rfl, _⟩ := h; rfl) | (obtain ⟨a, b, c, rfl, _⟩ := h; rfl) | (obtain ⟨rfl, _⟩ := h; rfl)) ⟨w__law_value, fun cdv A outer s H E B0 H0 hr => ?d, fin__law_value⟩
  have hu := hr.units
  have nd := sc__law_value.nd
  exact (ds_cons (ds_if (dt_cmp (o_eq hu) m_eq (de_ix (de_var 0) de_int) de_str) (ds_one (ds_ret (de_ix (de_var 0) de_int))) ds_nil)
    (ds_one (ds_ret (de_ix (de_ix (de_tup (da_cons (de_var 1) (da_cons (de_var 2) da_nil))) (de_ty b_int (mono_one m_int) rfl T.int (by decide +kernel) (da_cons (de_cmp (o_eq hu) m_eq (de_ix (de_var 0) de_int) de_str) da_nil))) (de_ix (de_var 0) de_int)))))
theorem sc__law_sees : FnScope ["lots", "row", "badge", "lot", "look"] ["lots", "row", "badge"] (defScope s__law_sees) := ⟨rfl, rfl, rfl, by decide +kernel, rfl, by decide +kernel, by decide +kernel⟩
theorem bn__law_sees {K : PySem.W.Frag} {f : Addr} {fd : FuncData} (F : FnP K "_law_sees" "_law_sees" s__law_sees [] f fd) : Binds K fd ["lots", "row", "badge"] [] := FunD.bindsN F fun _ _ _ _ _ _ us hl => match us, hl with | [_, _, _], _ => rfl
theorem ok__law_sees {Z : Res} {f : Addr} {fd : FuncData} (T : Txt mg) (F : FnP K "_law_sees" "_law_sees" s__law_sees [] f fd) (c__law_value : Cal P w K mg base Z 1 "_law_value" sp__law_value) : FnOk P w K mg base CX0 2 f fd ["lots", "row", "badge"] (DSp K Z sp__law_sees) := by
  refine okF F sc__law_sees spV_mono (by intro xs Q h; first | exact h.1 ▸ rfl | (obtain ⟨a, rfl, _⟩ := h; rfl) | (obtain ⟨a, b, rfl, _⟩ := h; rfl) | (obtain ⟨a, b, c, rfl, _⟩ := h; rfl) | (obtain ⟨rfl, _⟩ := h; rfl)) ⟨w__law_sees, fun cdv A outer s H E B0 H0 hr => ?d, fin__law_sees⟩
  have hu := hr.units
  have nd := sc__law_sees.nd
  exact (ds_cons (ds_for (di_seq (de_var 0)) (dg_nm 3 nd)
      (ds_one (ds_if (dt_cmp (o_eq hu) m_eq (de_blt b_len (mono_one m_len) rfl T.len (by decide +kernel) (da_cons (de_lc [("look", 4)] nd (die_seq (de_var 3)) (by kernel_rfl) (fun _ _ _ _ _ => (dg_nm 4 nd)) (fun _ _ _ _ _ => (dts_one (dt_cmp (o_ne hu) m_ne (de_cmp (o_eq hu) m_eq (de_ix (de_var 1) (de_ix (de_var 4) de_int)) (de_call c__law_value hr rfl (da_cons (de_ix (de_var 4) de_int) (da_cons (de_var 1) (da_cons (de_var 2) da_nil))))) (de_cmp (o_eq hu) m_eq (de_ix (de_var 4) de_int) de_str)))) (fun _ _ _ _ _ => (de_var 4))) da_nil)) de_int) (ds_one (ds_ret de_bl)) ds_nil)))
    (ds_one (ds_ret de_bl)))
theorem sc__law_sight : FnScope ["app", "person", "store", "windows", "sight", "at", "table", "told", "name", "lots", "shown", "role", "seen", "row", "field"] ["app", "person", "store"] (defScope s__law_sight) := ⟨rfl, rfl, rfl, by decide +kernel, rfl, by decide +kernel, by decide +kernel⟩
theorem bn__law_sight {K : PySem.W.Frag} {f : Addr} {fd : FuncData} (F : FnP K "_law_sight" "_law_sight" s__law_sight [] f fd) : Binds K fd ["app", "person", "store"] [] := FunD.bindsN F fun _ _ _ _ _ _ us hl => match us, hl with | [_, _, _], _ => rfl
theorem ok__law_sight {Z : Res} {f : Addr} {fd : FuncData} (T : Txt mg) (F : FnP K "_law_sight" "_law_sight" s__law_sight [] f fd) (c__law_sees : Cal P w K mg base Z 2 "_law_sees" sp__law_sees) : FnOk P w K mg base CX0 3 f fd ["app", "person", "store"] (DSp K Z sp__law_sight) := by
  refine okF F sc__law_sight spV_mono (by intro xs Q h; first | exact h.1 ▸ rfl | (obtain ⟨a, rfl, _⟩ := h; rfl) | (obtain ⟨a, b, rfl, _⟩ := h; rfl) | (obtain ⟨a, b, c, rfl, _⟩ := h; rfl) | (obtain ⟨rfl, _⟩ := h; rfl)) ⟨w__law_sight, fun cdv A outer s H E B0 H0 hr => ?d, fin__law_sight⟩
  have hu := hr.units
  have nd := sc__law_sight.nd
  exact (ds_cons (ds_set 3 nd (de_ix (de_lc [("role", 11)] nd (die_seq (de_ix (de_var 0) de_int)) (by kernel_rfl) (fun _ _ _ _ _ => (dg_nm 11 nd)) (fun _ _ _ _ _ => (dts_one (dt_cmp (o_eq hu) m_eq (de_ix (de_var 11) de_int) (de_ix (de_var 1) de_int)))) (fun _ _ _ _ _ => (de_ix (de_var 11) de_int))) de_int))
    (ds_cons (ds_own 4 nd da_nil)
    (ds_cons (ds_for (di_enum rfl T.enumerate (de_ix (de_var 0) de_int)) (dg_tp (dgs_cons 5 nd (dgs_cons 6 nd dgs_nil)))
      (ds_cons (ds_set 7 nd de_non)
      (ds_cons (ds_for (di_seq (de_var 3)) (dg_tp (dgs_cons 8 nd (dgs_cons 9 nd (dgs_cons 10 nd dgs_nil))))
        (ds_one (ds_if (dt_cmp (o_eq hu) m_eq (de_var 8) (de_ix (de_var 6) de_int)) (ds_cons (ds_lc 12 [("row", 13)] nd (die_seq (de_ix (de_var 2) (de_var 5))) (by kernel_rfl) (fun _ _ _ _ _ => (dg_nm 13 nd)) (fun _ _ _ _ _ => (dts_one (dt_tru (de_call c__law_sees hr rfl (da_cons (de_var 9) (da_cons (de_var 13) (da_cons (de_ix (de_var 1) de_int) da_nil))))))) (fun _ _ _ _ _ => (de_var 13)))
          (ds_one (ds_set 7 nd (de_ty b_tuple (mono_one m_tup) rfl T.tuple (by decide +kernel) (da_cons (de_blt (b_sorted hu) (mono_one m_sorted) rfl T.sorted (by decide +kernel) (da_cons (de_lc [("row", 13)] nd (die_seq (de_var 12)) (by kernel_rfl) (fun _ _ _ _ _ => (dg_nm 13 nd)) (fun _ _ _ _ _ => dts_nil) (fun _ _ _ _ _ => (de_ty b_tuple (mono_one m_tup) rfl T.tuple (by decide +kernel) (da_cons (de_lc [("field", 14)] nd (die_seq (de_var 10)) (by kernel_rfl) (fun _ _ _ _ _ => (dg_nm 14 nd)) (fun _ _ _ _ _ => dts_nil) (fun _ _ _ _ _ => (de_ix (de_var 13) (de_var 14)))) da_nil)))) da_nil)) da_nil))))) ds_nil)))
      (ds_one (ds_app 4 (de_var 7))))))
    (dss_frz 4 (ds_one (ds_ret (de_ty b_tuple (mono_one m_tup) rfl T.tuple (by decide +kernel) (da_cons (de_var 4) da_nil))))))))
theorem sc__law_same : FnScope ["told", "due", "at"] ["told", "due"] (defScope s__law_same) := ⟨rfl, rfl, rfl, by decide +kernel, rfl, by decide +kernel, by decide +kernel⟩
theorem bn__law_same {K : PySem.W.Frag} {f : Addr} {fd : FuncData} (F : FnP K "_law_same" "_law_same" s__law_same [] f fd) : Binds K fd ["told", "due"] [] := FunD.bindsN F fun _ _ _ _ _ _ us hl => match us, hl with | [_, _], _ => rfl
theorem ok__law_same {Z : Res} {k : Nat} {f : Addr} {fd : FuncData} (n : Nat) (sp : SpD) (hs : ∀ m, n = m + 1 → sp = same_n m) (T : Txt mg) (F : FnP K "_law_same" "_law_same" s__law_same [] f fd) (c__law_same : Cal P w K mg base Z k "_law_same" sp) : FnOk P w K mg base CX0 (k + 1) f fd ["told", "due"] (DSp K Z (same_n n)) := by
  refine okF F sc__law_same mono_same (by intro xs Q h; first | exact h.1 ▸ rfl | (obtain ⟨a, rfl, _⟩ := h; rfl) | (obtain ⟨a, b, rfl, _⟩ := h; rfl) | (obtain ⟨a, b, c, rfl, _⟩ := h; rfl) | (obtain ⟨rfl, _⟩ := h; rfl)) ⟨w__law_same sp, fun cdv A outer s H E B0 H0 hr => ?d, fin__law_same n sp hs⟩
  have hu := hr.units
  have nd := sc__law_same.nd
  exact (ds_cons (ds_if (dt_isN (de_var 1)) (ds_one (ds_ret (de_isN (de_var 0)))) ds_nil)
    (ds_cons (ds_if (dt_tru (de_isi (ty := "tuple") rfl T.isinstance rfl T.tuple (by decide +kernel) (de_var 1))) (ds_cons (ds_if (DW.dt (dw_or (dt_not (dt_tru (de_isi (ty := "tuple") rfl T.isinstance rfl T.tuple (by decide +kernel) (de_var 0)))) (dw_or1 (dt_cmp (o_ne hu) m_ne (de_blt b_len (mono_one m_len) rfl T.len (by decide +kernel) (da_cons (de_var 0) da_nil)) (de_blt b_len (mono_one m_len) rfl T.len (by decide +kernel) (da_cons (de_var 1) da_nil)))))) (ds_one (ds_ret de_bl)) ds_nil)
      (ds_cons (ds_for (di_rng1 rfl T.range (de_blt b_len (mono_one m_len) rfl T.len (by decide +kernel) (da_cons (de_var 1) da_nil))) (dg_nm 2 nd)
        (ds_one (ds_if (dt_not (dt_tru (de_call (hk := Nat.le_refl _) c__law_same hr rfl (da_cons (de_ix (de_var 0) (de_var 2)) (da_cons (de_ix (de_var 1) (de_var 2)) da_nil))))) (ds_one (ds_ret de_bl)) ds_nil)))
      (ds_one (ds_ret de_bl)))) ds_nil)
    (ds_cons (ds_if (dt_tru (de_isi (ty := "str") rfl T.isinstance rfl T.str (by decide +kernel) (de_var 1))) (ds_one (ds_ret (de_and (de_isi (ty := "str") rfl T.isinstance rfl T.str (by decide +kernel) (de_var 0)) (de_one (de_cmp (o_eq hu) m_eq (de_var 0) (de_var 1)))))) ds_nil)
    (ds_one (ds_ret (de_and (de_isi (ty := "int") rfl T.isinstance rfl T.int (by decide +kernel) (de_var 0)) (de_and (de_cmp (o_eq hu) m_eq (de_isi (ty := "bool") rfl T.isinstance rfl T.bool (by decide +kernel) (de_var 0)) (de_isi (ty := "bool") rfl T.isinstance rfl T.bool (by decide +kernel) (de_var 1))) (de_one (de_cmp (o_eq hu) m_eq (de_var 0) (de_var 1))))))))))
end
end K85

set_option maxRecDepth 100000
set_option maxHeartbeats 4000000
namespace K85
open PySem L2 DL
section
variable {P : Program} {w : World} {K : PySem.W.Frag} {mg : Str → Option Value} {base : Heap} {C_WayMaker : Addr}
theorem sc__law_is_term : FnScope ["thing"] ["thing"] (defScope s__law_is_term) := ⟨rfl, rfl, rfl, by decide +kernel, rfl, by decide +kernel, by decide +kernel⟩
theorem bn__law_is_term {K : PySem.W.Frag} {f : Addr} {fd : FuncData} (F : FnP K "_law_is_term" "_law_is_term" s__law_is_term [] f fd) : Binds K fd ["thing"] [] := FunD.bindsN F fun _ _ _ _ _ _ us hl => match us, hl with | [_], _ => rfl
theorem ok__law_is_term {Z : Res} {f : Addr} {fd : FuncData} (T : Txt mg) (F : FnP K "_law_is_term" "_law_is_term" s__law_is_term [] f fd) : FnOk P w K mg base CX0 1 f fd ["thing"] (DSp K Z sp__law_is_term) := by
  refine okF F sc__law_is_term spV_mono (by intro xs Q h; first | exact h.1 ▸ rfl | (obtain ⟨a, rfl, _⟩ := h; rfl) | (obtain ⟨a, b, rfl, _⟩ := h; rfl) | (obtain ⟨a, b, c, rfl, _⟩ := h; rfl) | (obtain ⟨rfl, _⟩ := h; rfl)) ⟨w__law_is_term, fun cdv A outer s H E B0 H0 hr => ?d, fin__law_is_term⟩
  have hu := hr.units
  have nd := sc__law_is_term.nd
  exact (ds_cons (ds_if (DW.dt (dw_or (dt_not (dt_tru (de_isi (ty := "tuple") rfl T.isinstance rfl T.tuple (by decide +kernel) (de_var 0)))) (dw_or (dt_cmp (o_ne hu) m_ne (de_blt b_len (mono_one m_len) rfl T.len (by decide +kernel) (da_cons (de_var 0) da_nil)) de_int) (dw_or1 (dt_not (dt_tru (de_isi (ty := "str") rfl T.isinstance rfl T.str (by decide +kernel) (de_ix (de_var 0) de_int)))))))) (ds_one (ds_ret de_bl)) ds_nil)
    (ds_one (ds_ret (de_and (de_isi (ty := "int") rfl T.isinstance rfl T.int (by decide +kernel) (de_ix (de_var 0) de_int)) (de_one (de_notT (de_isi (ty := "bool") rfl T.isinstance rfl T.bool (by decide +kernel) (de_ix (de_var 0) de_int))))))))
theorem sc__law_lot_same : FnScope ["told", "due", "wanted", "found", "fact", "lacking", "sign", "one", "other"] ["told", "due"] (defScope s__law_lot_same) := ⟨rfl, rfl, rfl, by decide +kernel, rfl, by decide +kernel, by decide +kernel⟩
theorem bn__law_lot_same {K : PySem.W.Frag} {f : Addr} {fd : FuncData} (F : FnP K "_law_lot_same" "_law_lot_same" s__law_lot_same [] f fd) : Binds K fd ["told", "due"] [] := FunD.bindsN F fun _ _ _ _ _ _ us hl => match us, hl with | [_, _], _ => rfl
theorem ok__law_lot_same {Z : Res} {f : Addr} {fd : FuncData} (T : Txt mg) (F : FnP K "_law_lot_same" "_law_lot_same" s__law_lot_same [] f fd) (c__law_is_term : Cal P w K mg base Z 1 "_law_is_term" sp__law_is_term) : FnOk P w K mg base CX0 2 f fd ["told", "due"] (DSp K Z sp__law_lot_same) := by
  refine okF F sc__law_lot_same spV_mono (by intro xs Q h; first | exact h.1 ▸ rfl | (obtain ⟨a, rfl, _⟩ := h; rfl) | (obtain ⟨a, b, rfl, _⟩ := h; rfl) | (obtain ⟨a, b, c, rfl, _⟩ := h; rfl) | (obtain ⟨rfl, _⟩ := h; rfl)) ⟨w__law_lot_same, fun cdv A outer s H E B0 H0 hr => ?d, fin__law_lot_same⟩
  have hu := hr.units
  have nd := sc__law_lot_same.nd
  exact (ds_cons (ds_if (dt_not (dt_tru (de_isi (ty := "tuple") rfl T.isinstance rfl T.tuple (by decide +kernel) (de_var 0)))) (ds_one (ds_ret de_bl)) ds_nil)
    (ds_cons (ds_set 2 nd (de_lc [("sign", 6), ("one", 7), ("other", 8)] nd (die_seq (de_var 1)) (by kernel_rfl) (fun _ _ _ _ _ => (dg_tp (dgs_cons 6 nd (dgs_cons 7 nd (dgs_cons 8 nd dgs_nil))))) (fun _ _ _ _ _ => dts_nil) (fun _ _ _ _ _ => (de_tup (da_cons (de_var 6) (da_cons (de_blt (b_min hu rfl) (mono_twoB m_min) rfl T.min (by decide +kernel) (da_cons (de_var 7) (da_cons (de_var 8) da_nil))) (da_cons (de_blt (b_max hu rfl) (mono_twoB m_max) rfl T.max (by decide +kernel) (da_cons (de_var 7) (da_cons (de_var 8) da_nil))) da_nil)))))))
    (ds_cons (ds_own 3 nd da_nil)
    (ds_cons (ds_for (di_seq (de_var 0)) (dg_nm 4 nd)
      (ds_cons (ds_if (DW.dt (dw_or (dt_not (dt_tru (de_isi (ty := "tuple") rfl T.isinstance rfl T.tuple (by decide +kernel) (de_var 4)))) (dw_or (dt_cmp (o_ne hu) m_ne (de_blt b_len (mono_one m_len) rfl T.len (by decide +kernel) (da_cons (de_var 4) da_nil)) de_int) (dw_or1 (dt_not (dt_tru (de_isi (ty := "str") rfl T.isinstance rfl T.str (by decide +kernel) (de_ix (de_var 4) de_int)))))))) (ds_one (ds_ret de_bl)) ds_nil)
      (ds_cons (ds_if (DW.dt (dw_or (dt_not (dt_tru (de_call c__law_is_term hr rfl (da_cons (de_ix (de_var 4) de_int) da_nil)))) (dw_or1 (dt_not (dt_tru (de_call c__law_is_term hr rfl (da_cons (de_ix (de_var 4) de_int) da_nil))))))) (ds_one (ds_ret de_bl)) ds_nil)
      (ds_one (ds_app 3 (de_tup (da_cons (de_ix (de_var 4) de_int) (da_cons (de_blt (b_min hu rfl) (mono_twoB m_min) rfl T.min (by decide +kernel) (da_cons (de_ix (de_var 4) de_int) (da_cons (de_ix (de_var 4) de_int) da_nil))) (da_cons (de_blt (b_max hu rfl) (mono_twoB m_max) rfl T.max (by decide +kernel) (da_cons (de_ix (de_var 4) de_int) (da_cons (de_ix (de_var 4) de_int) da_nil))) da_nil)))))))))
    (dss_frz 3 (ds_cons (ds_lc 5 [("fact", 4)] nd (die_seq (de_var 2)) (by kernel_rfl) (fun _ _ _ _ _ => (dg_nm 4 nd)) (fun _ _ _ _ _ => (dts_one (dt_cmp (o_nin hu) m_nin (de_var 4) (de_var 3)))) (fun _ _ _ _ _ => (de_var 4)))
    (ds_one (ds_ret (de_and (de_cmp (o_eq hu) m_eq (de_blt b_len (mono_one m_len) rfl T.len (by decide +kernel) (da_cons (de_var 5) da_nil)) de_int) (de_one (de_cmp (o_eq hu) m_eq (de_blt b_len (mono_one m_len) rfl T.len (by decide +kernel) (da_cons (de_lc [("fact", 4)] nd (die_seq (de_var 3)) (by kernel_rfl) (fun _ _ _ _ _ => (dg_nm 4 nd)) (fun _ _ _ _ _ => (dts_one (dt_cmp (o_nin hu) m_nin (de_var 4) (de_var 2)))) (fun _ _ _ _ _ => (de_var 4))) da_nil)) de_int)))))))))))
theorem sc__law_windows_right : FnScope ["app", "less", "idle", "name", "badge", "windows", "one", "table", "lots", "shown", "many", "fields", "due", "told", "role", "named_v", "lot", "at"] ["app", "less"] (defScope s__law_windows_right) := ⟨rfl, rfl, rfl, by decide +kernel, rfl, by decide +kernel, by decide +kernel⟩
theorem bn__law_windows_right {K : PySem.W.Frag} {f : Addr} {fd : FuncData} (F : FnP K "_law_windows_right" "_law_windows_right" s__law_windows_right [] f fd) : Binds K fd ["app", "less"] [] := FunD.bindsN F fun _ _ _ _ _ _ us hl => match us, hl with | [_, _], _ => rfl
theorem ok__law_windows_right {Z : Res} {f : Addr} {fd : FuncData} (T : Txt mg) (F : FnP K "_law_windows_right" "_law_windows_right" s__law_windows_right [] f fd) (c__law_facts : Cal P w K mg base Z 1 "_law_facts" sp__law_facts) (c__law_idle : Cal P w K mg base Z 2 "_law_idle" sp__law_idle) (c__law_lot_same : Cal P w K mg base Z 2 "_law_lot_same" sp__law_lot_same) (c__law_same : Cal P w K mg base Z 14 "_law_same" sp__law_same) (c__law_spare : Cal P w K mg base Z 3 "_law_spare" sp__law_spare) (c_idle_windows : Cal P w K mg base Z 13 "idle_windows" sp_idle_windows) (c_seen_lots : Cal P w K mg base Z 4 "seen_lots" sp_seen_lots) (c_sizes : Cal P w K mg base Z 1 "sizes" sp_sizes) (c_spare_lots : Cal P w K mg base Z 13 "spare_lots" sp_spare_lots) (c_trimmed : Cal P w K mg base Z 14 "trimmed" sp_trimmed) : FnOk P w K mg base CX0 15 f fd ["app", "less"] (DSp K Z sp__law_windows_right) := by
  refine okF F sc__law_windows_right spV_mono (by intro xs Q h; first | exact h.1 ▸ rfl | (obtain ⟨a, rfl, _⟩ := h; rfl) | (obtain ⟨a, b, rfl, _⟩ := h; rfl) | (obtain ⟨a, b, c, rfl, _⟩ := h; rfl) | (obtain ⟨rfl, _⟩ := h; rfl)) ⟨w__law_windows_right, fun cdv A outer s H E B0 H0 hr => ?d, fin__law_windows_right⟩
  have hu := hr.units
  have nd := sc__law_windows_right.nd
  exact (ds_cons (ds_own 2 nd da_nil)
    (ds_cons (ds_for (di_seq (de_ix (de_var 0) de_int)) (dg_tp (dgs_cons 3 nd (dgs_cons 4 nd (dgs_cons 5 nd dgs_nil))))
      (ds_one (ds_for (di_seq (de_var 5)) (dg_tp (dgs_cons 7 nd (dgs_cons 8 nd (dgs_cons 9 nd dgs_nil))))
        (ds_cons (ds_if (dt_not (dt_tru (de_call c__law_same hr rfl (da_cons (de_call c_spare_lots hr rfl (da_cons (de_var 0) (da_cons (de_var 3) (da_cons (de_var 7) da_nil)))) (da_cons (de_call c__law_spare hr rfl (da_cons (de_var 8) da_nil)) da_nil))))) (ds_one (ds_ret de_bl)) ds_nil)
        (ds_one (ds_if (dt_tru (de_call c__law_idle hr rfl (da_cons (de_var 8) da_nil))) (ds_one (ds_app 2 (de_tup (da_cons (de_var 3) (da_cons (de_var 7) da_nil))))) ds_nil))))))
    (dss_frz 2 (ds_cons (ds_if (DW.dt (dw_or (dt_not (dt_tru (de_call c__law_same hr rfl (da_cons (de_call c_idle_windows hr rfl (da_cons (de_var 0) da_nil)) (da_cons (de_ty b_tuple (mono_one m_tup) rfl T.tuple (by decide +kernel) (da_cons (de_blt (b_sorted hu) (mono_one m_sorted) rfl T.sorted (by decide +kernel) (da_cons (de_var 2) da_nil)) da_nil)) da_nil))))) (dw_or1 (dt_not (dt_tru (de_call c__law_same hr rfl (da_cons (de_call c_trimmed hr rfl (da_cons (de_var 0) da_nil)) (da_cons (de_var 1) da_nil)))))))) (ds_one (ds_ret de_bl)) ds_nil)
    (ds_cons (ds_for (di_seq (de_tup (da_cons (de_var 0) (da_cons (de_var 1) da_nil)))) (dg_nm 6 nd)
      (ds_cons (ds_set 10 nd (de_blt (b_sum rfl) (mono_one m_sum) rfl T.sum (by decide +kernel) (da_cons (de_lc [("table", 7), ("fields", 11)] nd (die_seq (de_ix (de_var 6) de_int)) (by kernel_rfl) (fun _ _ _ _ _ => (dg_tp (dgs_cons 7 nd (dgs_cons 11 nd dgs_nil)))) (fun _ _ _ _ _ => dts_nil) (fun _ _ _ _ _ => (de_blt b_len (mono_one m_len) rfl T.len (by decide +kernel) (da_cons (de_var 11) da_nil)))) da_nil)))
      (ds_cons (ds_set 5 nd (de_blt (b_sum rfl) (mono_one m_sum) rfl T.sum (by decide +kernel) (da_cons (de_lc [("role", 14)] nd (die_seq (de_ix (de_var 6) de_int)) (by kernel_rfl) (fun _ _ _ _ _ => (dg_nm 14 nd)) (fun _ _ _ _ _ => dts_nil) (fun _ _ _ _ _ => (de_blt b_len (mono_one m_len) rfl T.len (by decide +kernel) (da_cons (de_ix (de_var 14) de_int) da_nil)))) da_nil)))
      (ds_one (ds_if (dt_not (dt_tru (de_call c__law_same hr rfl (da_cons (de_call c_sizes hr rfl (da_cons (de_var 6) da_nil)) (da_cons (de_tup (da_cons (de_blt b_len (mono_one m_len) rfl T.len (by decide +kernel) (da_cons (de_ix (de_var 6) de_int) da_nil)) (da_cons (de_var 10) (da_cons (de_blt b_len (mono_one m_len) rfl T.len (by decide +kernel) (da_cons (de_ix (de_var 6) de_int) da_nil)) (da_cons (de_var 5) (da_cons (de_blt b_len (mono_one m_len) rfl T.len (by decide +kernel) (da_cons (de_ix (de_var 6) de_int) da_nil)) (da_cons (de_blt b_len (mono_one m_len) rfl T.len (by decide +kernel) (da_cons (de_ix (de_var 6) de_int) da_nil)) da_nil))))))) da_nil))))) (ds_one (ds_ret de_bl)) ds_nil)))))
    (ds_cons (ds_if (DW.dt (dw_or (dt_not (dt_tru (de_call c__law_same hr rfl (da_cons (de_call c_trimmed hr rfl (da_cons (de_var 1) da_nil)) (da_cons (de_var 1) da_nil))))) (dw_or1 (dt_not (dt_tru (de_call c__law_same hr rfl (da_cons (de_call c_idle_windows hr rfl (da_cons (de_var 1) da_nil)) (da_cons (de_tup da_nil) da_nil)))))))) (ds_one (ds_ret de_bl)) ds_nil)
    (ds_cons (ds_for (di_seq (de_ix (de_var 1) de_int)) (dg_tp (dgs_cons 3 nd (dgs_cons 4 nd (dgs_cons 5 nd dgs_nil))))
      (ds_one (ds_for (di_seq (de_ix (de_var 1) de_int)) (dg_tp (dgs_cons 7 nd (dgs_cons 11 nd dgs_nil)))
        (ds_cons (ds_set 8 nd (de_lc [("named_v", 15), ("lots", 8), ("shown", 9)] nd (die_seq (de_var 5)) (by kernel_rfl) (fun _ _ _ _ _ => (dg_tp (dgs_cons 15 nd (dgs_cons 8 nd (dgs_cons 9 nd dgs_nil))))) (fun _ _ _ _ _ => (dts_one (dt_cmp (o_eq hu) m_eq (de_var 15) (de_var 7)))) (fun _ _ _ _ _ => (de_var 8))))
        (ds_cons (ds_set 12 nd (de_lc [("lot", 16)] nd (die_seq (de_ix (de_op o_add m_add (de_var 8) (de_lst (da_cons (de_tup da_nil) da_nil))) de_int)) (by kernel_rfl) (fun _ _ _ _ _ => (dg_nm 16 nd)) (fun _ _ _ _ _ => dts_nil) (fun _ _ _ _ _ => (de_call c__law_facts hr rfl (da_cons (de_var 16) (da_cons de_bl da_nil))))))
        (ds_cons (ds_set 13 nd (de_call c_seen_lots hr rfl (da_cons (de_var 1) (da_cons (de_var 3) (da_cons (de_var 7) (da_cons de_str da_nil))))))
        (ds_cons (ds_if (DW.dt (dw_or (dt_not (dt_tru (de_isi (ty := "tuple") rfl T.isinstance rfl T.tuple (by decide +kernel) (de_var 13)))) (dw_or1 (dt_cmp (o_ne hu) m_ne (de_blt b_len (mono_one m_len) rfl T.len (by decide +kernel) (da_cons (de_var 13) da_nil)) (de_blt b_len (mono_one m_len) rfl T.len (by decide +kernel) (da_cons (de_var 12) da_nil)))))) (ds_one (ds_ret de_bl)) ds_nil)
        (ds_one (ds_if (dt_cmp o_gt m_gt (de_blt b_len (mono_one m_len) rfl T.len (by decide +kernel) (da_cons (de_lc [("at", 17)] nd (DI.e (di_rng1 rfl T.range (de_blt b_len (mono_one m_len) rfl T.len (by decide +kernel) (da_cons (de_var 12) da_nil)))) (by kernel_rfl) (fun _ _ _ _ _ => (dg_nm 17 nd)) (fun _ _ _ _ _ => (dts_one (dt_not (dt_tru (de_call c__law_lot_same hr rfl (da_cons (de_ix (de_var 13) (de_var 17)) (da_cons (de_ix (de_var 12) (de_var 17)) da_nil))))))) (fun _ _ _ _ _ => (de_var 17))) da_nil)) de_int) (ds_one (ds_ret de_bl)) ds_nil)))))))))
    (ds_one (ds_ret de_bl)))))))))
theorem sc__law_asks_right : FnScope ["app", "less", "ask", "lots", "role", "due", "window"] ["app", "less"] (defScope s__law_asks_right) := ⟨rfl, rfl, rfl, by decide +kernel, rfl, by decide +kernel, by decide +kernel⟩
theorem bn__law_asks_right {K : PySem.W.Frag} {f : Addr} {fd : FuncData} (F : FnP K "_law_asks_right" "_law_asks_right" s__law_asks_right [] f fd) : Binds K fd ["app", "less"] [] := FunD.bindsN F fun _ _ _ _ _ _ us hl => match us, hl with | [_, _], _ => rfl
theorem ok__law_asks_right {Z : Res} {f : Addr} {fd : FuncData} (T : Txt mg) (F : FnP K "_law_asks_right" "_law_asks_right" s__law_asks_right [] f fd) (c__law_same : Cal P w K mg base Z 14 "_law_same" sp__law_same) (c__law_unseen : Cal P w K mg base Z 2 "_law_unseen" sp__law_unseen) (c_tells_nothing : Cal P w K mg base Z 13 "tells_nothing" sp_tells_nothing) : FnOk P w K mg base CX0 15 f fd ["app", "less"] (DSp K Z sp__law_asks_right) := by
  refine okF F sc__law_asks_right spV_mono (by intro xs Q h; first | exact h.1 ▸ rfl | (obtain ⟨a, rfl, _⟩ := h; rfl) | (obtain ⟨a, b, rfl, _⟩ := h; rfl) | (obtain ⟨a, b, c, rfl, _⟩ := h; rfl) | (obtain ⟨rfl, _⟩ := h; rfl)) ⟨w__law_asks_right, fun cdv A outer s H E B0 H0 hr => ?d, fin__law_asks_right⟩
  have hu := hr.units
  have nd := sc__law_asks_right.nd
  exact (ds_cons (ds_for (di_seq (de_ix (de_var 0) de_int)) (dg_nm 2 nd)
      (ds_cons (ds_set 3 nd (de_lst da_nil))
      (ds_cons (ds_for (di_seq (de_ix (de_var 0) de_int)) (dg_nm 4 nd)
        (ds_one (ds_if (dt_cmp (o_eq hu) m_eq (de_ix (de_var 4) de_int) (de_ix (de_var 2) de_int)) (ds_one (ds_lc 3 [("window", 6)] nd (die_seq (de_ix (de_var 4) de_int)) (by kernel_rfl) (fun _ _ _ _ _ => (dg_nm 6 nd)) (fun _ _ _ _ _ => (dts_one (dt_cmp (o_eq hu) m_eq (de_ix (de_var 6) de_int) (de_ix (de_ix (de_var 2) de_int) de_int)))) (fun _ _ _ _ _ => (de_ix (de_var 6) de_int)))) ds_nil)))
      (ds_cons (ds_set 5 nd (de_and (de_cmp o_gt m_gt (de_blt b_len (mono_one m_len) rfl T.len (by decide +kernel) (da_cons (de_var 3) da_nil)) de_int) (de_one (de_notT (de_call c__law_unseen hr rfl (da_cons (de_ix (de_var 3) de_int) da_nil))))))
      (ds_one (ds_if (DW.dt (dw_or (dt_not (dt_tru (de_call c__law_same hr rfl (da_cons (de_call c_tells_nothing hr rfl (da_cons (de_var 0) (da_cons (de_ix (de_var 2) de_int) da_nil))) (da_cons (de_var 5) da_nil))))) (dw_or1 (dt_not (dt_tru (de_call c__law_same hr rfl (da_cons (de_call c_tells_nothing hr rfl (da_cons (de_var 1) (da_cons (de_ix (de_var 2) de_int) da_nil))) (da_cons (de_var 5) da_nil)))))))) (ds_one (ds_ret de_bl)) ds_nil))))))
    (ds_one (ds_ret de_bl)))
theorem sc__law_store : FnScope ["barn", "app", "pool", "most", "store", "table", "fields", "rows", "at", "field"] ["barn", "app", "pool", "most"] (defScope s__law_store) := ⟨rfl, rfl, rfl, by decide +kernel, rfl, by decide +kernel, by decide +kernel⟩
theorem bn__law_store {K : PySem.W.Frag} {f : Addr} {fd : FuncData} (F : FnP K "_law_store" "_law_store" s__law_store [] f fd) : Binds K fd ["barn", "app", "pool", "most"] [] := FunD.bindsN F fun _ _ _ _ _ _ us hl => match us, hl with | [_, _, _, _], _ => rfl
theorem ok__law_store {Z : Res} {f : Addr} {fd : FuncData} {b : Addr} (T : Txt mg) (F : FnP K "_law_store" "_law_store" s__law_store [] f fd) (c__law_bale : Cal P w K mg base Z 1 "_law_bale" (sp__law_bale b)) : FnOk P w K mg base CX0 2 f fd ["barn", "app", "pool", "most"] (DSp K Z (sp__law_store b)) := by
  refine okF F sc__law_store mono__law_store (by intro xs Q h; first | exact h.1 ▸ rfl | (obtain ⟨a, rfl, _⟩ := h; rfl) | (obtain ⟨a, b, rfl, _⟩ := h; rfl) | (obtain ⟨a, b, c, rfl, _⟩ := h; rfl) | (obtain ⟨rfl, _⟩ := h; rfl)) ⟨(w__law_store b), fun cdv A outer s H E B0 H0 hr => ?d, (fin__law_store b)⟩
  have hu := hr.units
  have nd := sc__law_store.nd
  exact (ds_cons (ds_own 4 nd da_nil)
    (ds_cons (ds_for (di_seq (de_ix (de_var 1) de_int)) (dg_tp (dgs_cons 5 nd (dgs_cons 6 nd dgs_nil)))
      (ds_cons (ds_own 7 nd da_nil)
      (ds_cons (ds_for (di_rng1 rfl T.range (de_call c__law_bale hr rfl (da_cons (de_var 0) (da_cons (de_var 3) da_nil)))) (dg_nm 8 nd)
        (ds_one (ds_app 7 (de_ty b_tuple (mono_one m_tup) rfl T.tuple (by decide +kernel) (da_cons (de_lc [("field", 9)] nd (die_seq (de_var 6)) (by kernel_rfl) (fun _ _ _ _ _ => (dg_nm 9 nd)) (fun _ _ _ _ _ => dts_nil) (fun _ _ _ _ _ => (de_ix (de_var 2) (de_call c__law_bale hr rfl (da_cons (de_var 0) (da_cons (de_blt b_len (mono_one m_len) rfl T.len (by decide +kernel) (da_cons (de_var 2) da_nil)) da_nil)))))) da_nil)))))
      (dss_frz 7 (ds_one (ds_app 4 (de_ty b_tuple (mono_one m_tup) rfl T.tuple (by decide +kernel) (da_cons (de_blt (b_sorted hu) (mono_one m_sorted) rfl T.sorted (by decide +kernel) (da_cons (de_var 7) da_nil)) da_nil))))))))
    (dss_frz 4 (ds_one (ds_ret (de_ty b_tuple (mono_one m_tup) rfl T.tuple (by decide +kernel) (da_cons (de_var 4) da_nil)))))))
theorem sc__law_sights_right : FnScope ["barn", "app", "less", "role", "badge", "person", "pool", "store", "other", "one", "at", "sights", "row", "number", "part"] ["barn", "app", "less"] (defScope s__law_sights_right) := ⟨rfl, rfl, rfl, by decide +kernel, rfl, by decide +kernel, by decide +kernel⟩
theorem bn__law_sights_right {K : PySem.W.Frag} {f : Addr} {fd : FuncData} (F : FnP K "_law_sights_right" "_law_sights_right" s__law_sights_right [] f fd) : Binds K fd ["barn", "app", "less"] [] := FunD.bindsN F fun _ _ _ _ _ _ us hl => match us, hl with | [_, _, _], _ => rfl
theorem ok__law_sights_right {Z : Res} {f : Addr} {fd : FuncData} {b : Addr} (T : Txt mg) (F : FnP K "_law_sights_right" "_law_sights_right" s__law_sights_right [] f fd) (c__law_bale : Cal P w K mg base Z 1 "_law_bale" (sp__law_bale b)) (c__law_same : Cal P w K mg base Z 14 "_law_same" sp__law_same) (c__law_sight : Cal P w K mg base Z 3 "_law_sight" sp__law_sight) (c__law_store : Cal P w K mg base Z 2 "_law_store" (sp__law_store b)) (c_are_alike : Cal P w K mg base Z 9 "are_alike" sp_are_alike) (c_sight_of : Cal P w K mg base Z 8 "sight_of" sp_sight_of) : FnOk P w K mg base CX0 15 f fd ["barn", "app", "less"] (DSp K Z (sp__law_sights_right b)) := by
  refine okF F sc__law_sights_right mono__law_sights_right (by intro xs Q h; first | exact h.1 ▸ rfl | (obtain ⟨a, rfl, _⟩ := h; rfl) | (obtain ⟨a, b, rfl, _⟩ := h; rfl) | (obtain ⟨a, b, c, rfl, _⟩ := h; rfl) | (obtain ⟨rfl, _⟩ := h; rfl)) ⟨(w__law_sights_right b), fun cdv A outer s H E B0 H0 hr => ?d, (fin__law_sights_right b)⟩
  have hu := hr.units
  have nd := sc__law_sights_right.nd
  exact (ds_cons (ds_for (di_seq (de_ix (de_var 1) de_int)) (dg_nm 3 nd)
      (ds_cons (ds_set 4 nd (de_ty b_tuple (mono_one m_tup) rfl T.tuple (by decide +kernel) (da_cons (de_lc [("number", 13)] nd (die_seq (de_ix (de_var 3) de_int)) (by kernel_rfl) (fun _ _ _ _ _ => (dg_nm 13 nd)) (fun _ _ _ _ _ => dts_nil) (fun _ _ _ _ _ => (de_ix (de_lst (da_cons de_int (da_cons de_int (da_cons de_int (da_cons (de_neg de_int) da_nil))))) (de_call c__law_bale hr rfl (da_cons (de_var 0) (da_cons de_int da_nil)))))) da_nil)))
      (ds_cons (ds_set 5 nd (de_tup (da_cons (de_ix (de_var 3) de_int) (da_cons (de_var 4) da_nil))))
      (ds_cons (ds_set 6 nd (de_op o_add m_add (de_ty b_list (mono_one m_list) rfl T.list (by decide +kernel) (da_cons (de_var 4) da_nil)) (de_lst (da_cons de_int (da_cons de_int (da_cons de_int (da_cons de_int (da_cons (de_op o_pow m_pow de_int de_int) (da_cons (de_neg de_int) da_nil)))))))))
      (ds_cons (ds_set 7 nd (de_call c__law_store hr rfl (da_cons (de_var 0) (da_cons (de_var 1) (da_cons (de_var 6) (da_cons de_int da_nil))))))
      (ds_cons (ds_set 8 nd (de_call c__law_store hr rfl (da_cons (de_var 0) (da_cons (de_var 1) (da_cons (de_var 6) (da_cons de_int da_nil))))))
      (ds_cons (ds_if (dt_cmp (o_eq hu) m_eq (de_call c__law_bale hr rfl (da_cons (de_var 0) (da_cons de_int da_nil))) de_int) (ds_cons (ds_set 10 nd (de_call c__law_bale hr rfl (da_cons (de_var 0) (da_cons (de_blt b_len (mono_one m_len) rfl T.len (by decide +kernel) (da_cons (de_var 7) da_nil)) da_nil))))
        (ds_cons (ds_set 8 nd (de_op o_add m_add (de_op o_add m_add (de_slice (de_var 7) do_none (do_some (de_var 10))) (de_tup (da_cons (de_slice (de_ix (de_var 7) (de_var 10)) (do_some de_int) do_none) da_nil))) (de_slice (de_var 7) (do_some (de_op o_add m_add (de_var 10) de_int)) do_none)))
        (ds_one (ds_if (DW.dt (dw_and (dt_cmp o_gt m_gt (de_blt b_len (mono_one m_len) rfl T.len (by decide +kernel) (da_cons (de_ix (de_var 7) (de_var 10)) da_nil)) de_int) (dw_and1 (dt_cmp o_gt m_gt (de_call c__law_bale hr rfl (da_cons (de_var 0) (da_cons de_int da_nil))) de_int)))) (ds_cons (ds_set 12 nd (de_ty b_tuple (mono_one m_tup) rfl T.tuple (by decide +kernel) (da_cons (de_lc [("part", 14)] nd (die_seq (de_ix (de_ix (de_var 7) (de_var 10)) de_int)) (by kernel_rfl) (fun _ _ _ _ _ => (dg_nm 14 nd)) (fun _ _ _ _ _ => dts_nil) (fun _ _ _ _ _ => (de_ix (de_lst (da_cons (de_var 14) (da_cons (de_var 14) (da_cons (de_ix (de_var 6) (de_call c__law_bale hr rfl (da_cons (de_var 0) (da_cons (de_blt b_len (mono_one m_len) rfl T.len (by decide +kernel) (da_cons (de_var 6) da_nil)) da_nil)))) da_nil)))) (de_call c__law_bale hr rfl (da_cons (de_var 0) (da_cons de_int da_nil)))))) da_nil)))
          (ds_one (ds_set 8 nd (de_op o_add m_add (de_op o_add m_add (de_slice (de_var 7) do_none (do_some (de_var 10))) (de_tup (da_cons (de_ty b_tuple (mono_one m_tup) rfl T.tuple (by decide +kernel) (da_cons (de_blt (b_sorted hu) (mono_one m_sorted) rfl T.sorted (by decide +kernel) (da_cons (de_op o_add m_add (de_slice (de_ix (de_var 7) (de_var 10)) (do_some de_int) do_none) (de_tup (da_cons (de_var 12) da_nil))) da_nil)) da_nil)) da_nil))) (de_slice (de_var 7) (do_some (de_op o_add m_add (de_var 10) de_int)) do_none))))) ds_nil)))) ds_nil)
      (ds_one (ds_for (di_seq (de_tup (da_cons (de_var 1) (da_cons (de_var 2) da_nil)))) (dg_nm 9 nd)
        (ds_cons (ds_set 11 nd (de_tup (da_cons (de_call c__law_sight hr rfl (da_cons (de_var 9) (da_cons (de_var 5) (da_cons (de_var 7) da_nil)))) (da_cons (de_call c__law_sight hr rfl (da_cons (de_var 9) (da_cons (de_var 5) (da_cons (de_var 8) da_nil)))) da_nil))))
        (ds_cons (ds_if (DW.dt (dw_or (dt_not (dt_tru (de_call c__law_same hr rfl (da_cons (de_call c_sight_of hr rfl (da_cons (de_var 9) (da_cons (de_var 5) (da_cons (de_var 7) da_nil)))) (da_cons (de_ix (de_var 11) de_int) da_nil))))) (dw_or1 (dt_not (dt_tru (de_call c__law_same hr rfl (da_cons (de_call c_sight_of hr rfl (da_cons (de_var 9) (da_cons (de_var 5) (da_cons (de_var 8) da_nil)))) (da_cons (de_ix (de_var 11) de_int) da_nil)))))))) (ds_one (ds_ret de_bl)) ds_nil)
        (ds_one (ds_if (dt_not (dt_tru (de_call c__law_same hr rfl (da_cons (de_call c_are_alike hr rfl (da_cons (de_var 9) (da_cons (de_var 5) (da_cons (de_var 7) (da_cons (de_var 8) da_nil))))) (da_cons (de_cmp (o_eq hu) m_eq (de_ix (de_var 11) de_int) (de_ix (de_var 11) de_int)) da_nil))))) (ds_one (ds_ret de_bl)) ds_nil)))))))))))))
    (ds_one (ds_ret de_bl)))
theorem sc__law_by_hand : FnScope ["tied", "turned", "gone", "roles", "app", "name", "table", "due", "less", "store", "one", "other", "lone"] [] (defScope s__law_by_hand) := ⟨rfl, rfl, rfl, by decide +kernel, rfl, by decide +kernel, by decide +kernel⟩
theorem bn__law_by_hand {K : PySem.W.Frag} {f : Addr} {fd : FuncData} (F : FnP K "_law_by_hand" "_law_by_hand" s__law_by_hand [] f fd) : Binds K fd [] [] := FunD.bindsN F fun _ _ _ _ _ _ us hl => match us, hl with | [], _ => rfl
theorem ok__law_by_hand {Z : Res} {f : Addr} {fd : FuncData} (T : Txt mg) (F : FnP K "_law_by_hand" "_law_by_hand" s__law_by_hand [] f fd) (c__law_same : Cal P w K mg base Z 14 "_law_same" sp__law_same) (c_are_alike : Cal P w K mg base Z 9 "are_alike" sp_are_alike) (c_idle_windows : Cal P w K mg base Z 13 "idle_windows" sp_idle_windows) (c_sight_of : Cal P w K mg base Z 8 "sight_of" sp_sight_of) (c_sizes : Cal P w K mg base Z 1 "sizes" sp_sizes) (c_spare_lots : Cal P w K mg base Z 13 "spare_lots" sp_spare_lots) (c_tells_nothing : Cal P w K mg base Z 13 "tells_nothing" sp_tells_nothing) (c_trimmed : Cal P w K mg base Z 14 "trimmed" sp_trimmed) : FnOk P w K mg base CX0 15 f fd [] (DSp K Z sp__law_by_hand) := by
  refine okF F sc__law_by_hand mono__law_by_hand (by intro xs Q h; first | exact h.1 ▸ rfl | (obtain ⟨a, rfl, _⟩ := h; rfl) | (obtain ⟨a, b, rfl, _⟩ := h; rfl) | (obtain ⟨a, b, c, rfl, _⟩ := h; rfl) | (obtain ⟨rfl, _⟩ := h; rfl)) ⟨w__law_by_hand, fun cdv A outer s H E B0 H0 hr => ?d, fin__law_by_hand⟩
  have hu := hr.units
  have nd := sc__law_by_hand.nd
  exact (ds_cons (ds_set 0 nd (de_tup (da_cons (de_tup (da_cons de_str (da_cons de_int (da_cons (de_tup (da_cons de_str (da_cons de_int da_nil))) da_nil)))) (da_cons (de_tup (da_cons de_str (da_cons de_int (da_cons (de_tup (da_cons de_str (da_cons de_int da_nil))) da_nil)))) da_nil))))
    (ds_cons (ds_set 1 nd (de_tup (da_cons (de_tup (da_cons de_str (da_cons de_int (da_cons (de_tup (da_cons de_str (da_cons de_int da_nil))) da_nil)))) (da_cons (de_tup (da_cons de_str (da_cons de_int (da_cons (de_tup (da_cons de_str (da_cons de_int da_nil))) da_nil)))) da_nil))))
    (ds_cons (ds_set 2 nd (de_tup (da_cons (de_tup (da_cons de_str (da_cons de_int (da_cons (de_tup (da_cons de_str (da_cons de_int da_nil))) da_nil)))) (da_cons (de_tup (da_cons de_str (da_cons de_int (da_cons (de_tup (da_cons de_str (da_cons de_int da_nil))) da_nil)))) da_nil))))
    (ds_cons (ds_own 3 nd (da_cons (de_tup (da_cons de_str (da_cons (de_tup (da_cons de_str da_nil)) (da_cons (de_tup (da_cons (de_tup (da_cons de_str (da_cons (de_tup (da_cons (de_tup (da_cons (de_tup (da_cons de_str (da_cons de_int (da_cons (de_tup (da_cons de_str (da_cons de_int da_nil))) da_nil)))) da_nil)) (da_cons (de_tup (da_cons (de_tup (da_cons de_str (da_cons de_int (da_cons (de_tup (da_cons de_str (da_cons de_int da_nil))) da_nil)))) da_nil)) da_nil))) (da_cons (de_tup da_nil) da_nil)))) (da_cons (de_tup (da_cons de_str (da_cons (de_tup (da_cons (de_var 0) (da_cons (de_var 1) da_nil))) (da_cons (de_tup (da_cons de_int da_nil)) da_nil)))) da_nil))) da_nil)))) da_nil))
    (ds_cons (ds_app 3 (de_tup (da_cons de_str (da_cons (de_tup da_nil) (da_cons (de_tup (da_cons (de_tup (da_cons de_str (da_cons (de_tup (da_cons (de_var 2) (da_cons (de_step (de_var 2) (de_neg de_int)) da_nil))) (da_cons (de_tup (da_cons de_int (da_cons de_int da_nil))) da_nil)))) (da_cons (de_tup (da_cons de_str (da_cons (de_tup (da_cons (de_var 2) (da_cons (de_tup (da_cons (de_tup (da_cons de_str (da_cons de_int (da_cons (de_tup (da_cons de_str (da_cons de_int da_nil))) da_nil)))) da_nil)) da_nil))) (da_cons (de_tup (da_cons de_int da_nil)) da_nil)))) da_nil))) da_nil)))))
    (ds_cons (ds_app 3 (de_tup (da_cons de_str (da_cons (de_tup (da_cons de_str da_nil)) (da_cons (de_tup (da_cons (de_tup (da_cons de_str (da_cons (de_tup (da_cons (de_tup da_nil) (da_cons (de_var 0) da_nil))) (da_cons (de_tup da_nil) da_nil)))) (da_cons (de_tup (da_cons de_str (da_cons (de_tup (da_cons (de_tup (da_cons (de_tup (da_cons de_str (da_cons de_int (da_cons (de_tup (da_cons de_str (da_cons de_int da_nil))) da_nil)))) da_nil)) (da_cons (de_tup (da_cons (de_tup (da_cons de_str (da_cons de_int (da_cons (de_tup (da_cons de_str (da_cons de_int da_nil))) da_nil)))) da_nil)) da_nil))) (da_cons (de_tup (da_cons de_int da_nil)) da_nil)))) da_nil))) da_nil)))))
    (dss_frz 3 (ds_cons (ds_set 4 nd (de_tup (da_cons (de_tup (da_cons (de_tup (da_cons de_str (da_cons (de_tup (da_cons de_str (da_cons de_str da_nil))) da_nil))) (da_cons (de_tup (da_cons de_str (da_cons (de_tup (da_cons de_str da_nil)) da_nil))) da_nil))) (da_cons (de_ty b_tuple (mono_one m_tup) rfl T.tuple (by decide +kernel) (da_cons (de_var 3) da_nil)) (da_cons (de_tup (da_cons (de_tup (da_cons de_str (da_cons de_str (da_cons (de_tup da_nil) (da_cons (de_tup (da_cons de_str da_nil)) (da_cons de_non (da_cons (de_tup da_nil) (da_cons (de_tup (da_cons de_str da_nil)) da_nil)))))))) da_nil)) (da_cons (de_tup da_nil) da_nil))))))
    (ds_cons (ds_for (di_seq (de_lst (da_cons (de_tup (da_cons de_str (da_cons de_str (da_cons (de_tup (da_cons de_int da_nil)) da_nil)))) (da_cons (de_tup (da_cons de_str (da_cons de_str (da_cons (de_tup (da_cons de_int da_nil)) da_nil)))) (da_cons (de_tup (da_cons de_str (da_cons de_str (da_cons (de_tup (da_cons de_int da_nil)) da_nil)))) (da_cons (de_tup (da_cons de_str (da_cons de_str (da_cons (de_tup (da_cons de_int da_nil)) da_nil)))) (da_cons (de_tup (da_cons de_str (da_cons de_str (da_cons (de_tup (da_cons de_int da_nil)) da_nil)))) (da_cons (de_tup (da_cons de_str (da_cons de_str (da_cons (de_tup da_nil) da_nil)))) da_nil)))))))) (dg_tp (dgs_cons 5 nd (dgs_cons 6 nd (dgs_cons 7 nd dgs_nil))))
      (ds_one (ds_if (dt_not (dt_tru (de_call c__law_same hr rfl (da_cons (de_call c_spare_lots hr rfl (da_cons (de_var 4) (da_cons (de_var 5) (da_cons (de_var 6) da_nil)))) (da_cons (de_var 7) da_nil))))) (ds_one (ds_ret de_bl)) ds_nil)))
    (ds_cons (ds_own 8 nd (da_cons (de_tup (da_cons de_str (da_cons (de_tup (da_cons de_str da_nil)) (da_cons (de_tup (da_cons (de_tup (da_cons de_str (da_cons (de_tup (da_cons (de_tup (da_cons (de_tup (da_cons de_str (da_cons de_int (da_cons (de_tup (da_cons de_str (da_cons de_int da_nil))) da_nil)))) da_nil)) da_nil)) (da_cons (de_tup da_nil) da_nil)))) (da_cons (de_tup (da_cons de_str (da_cons (de_tup (da_cons (de_var 0) da_nil)) (da_cons (de_tup (da_cons de_int da_nil)) da_nil)))) da_nil))) da_nil)))) (da_cons (de_tup (da_cons de_str (da_cons (de_tup da_nil) (da_cons (de_tup (da_cons (de_tup (da_cons de_str (da_cons (de_tup (da_cons (de_tup (da_cons (de_tup (da_cons de_str (da_cons de_int (da_cons (de_tup (da_cons de_str (da_cons de_int da_nil))) da_nil)))) da_nil)) da_nil)) (da_cons (de_tup (da_cons de_int da_nil)) da_nil)))) da_nil)) da_nil)))) da_nil)))
    (ds_cons (ds_app 8 (de_tup (da_cons de_str (da_cons (de_tup (da_cons de_str da_nil)) (da_cons (de_tup (da_cons (de_tup (da_cons de_str (da_cons (de_tup (da_cons (de_tup da_nil) da_nil)) (da_cons (de_tup da_nil) da_nil)))) (da_cons (de_ix (de_ix (de_ix (de_var 3) de_int) de_int) de_int) da_nil))) da_nil)))))
    (dss_frz 8 (ds_cons (ds_if (DW.dt (dw_or (dt_not (dt_tru (de_call c__law_same hr rfl (da_cons (de_call c_idle_windows hr rfl (da_cons (de_var 4) da_nil)) (da_cons (de_tup (da_cons (de_tup (da_cons de_str (da_cons de_str da_nil))) da_nil)) da_nil))))) (dw_or1 (dt_not (dt_tru (de_call c__law_same hr rfl (da_cons (de_call c_trimmed hr rfl (da_cons (de_var 4) da_nil)) (da_cons (de_tup (da_cons (de_ix (de_var 4) de_int) (da_cons (de_ty b_tuple (mono_one m_tup) rfl T.tuple (by decide +kernel) (da_cons (de_var 8) da_nil)) (da_cons (de_ix (de_var 4) de_int) (da_cons (de_tup da_nil) da_nil))))) da_nil)))))))) (ds_one (ds_ret de_bl)) ds_nil)
    (ds_cons (ds_set 9 nd (de_tup (da_cons (de_tup (da_cons (de_tup (da_cons de_int (da_cons de_int da_nil))) (da_cons (de_tup (da_cons de_int (da_cons de_int da_nil))) da_nil))) (da_cons (de_tup (da_cons (de_tup (da_cons de_int da_nil)) (da_cons (de_tup (da_cons de_int da_nil)) (da_cons (de_tup (da_cons de_int da_nil)) da_nil)))) da_nil))))
    (ds_cons (ds_for (di_seq (de_lst (da_cons (de_tup (da_cons (de_var 4) (da_cons (de_tup (da_cons (de_tup da_nil) (da_cons (de_tup (da_cons (de_tup (da_cons de_int da_nil)) (da_cons (de_tup (da_cons de_int da_nil)) da_nil))) da_nil))) da_nil))) (da_cons (de_tup (da_cons (de_call c_trimmed hr rfl (da_cons (de_var 4) da_nil)) (da_cons (de_tup (da_cons de_non (da_cons (de_tup (da_cons (de_tup (da_cons de_int da_nil)) (da_cons (de_tup (da_cons de_int da_nil)) da_nil))) da_nil))) da_nil))) da_nil)))) (dg_tp (dgs_cons 10 nd (dgs_cons 7 nd dgs_nil)))
      (ds_one (ds_if (DW.dt (dw_or (dt_not (dt_tru (de_call c__law_same hr rfl (da_cons (de_call c_sight_of hr rfl (da_cons (de_var 10) (da_cons (de_tup (da_cons de_str (da_cons (de_tup da_nil) da_nil))) (da_cons (de_var 9) da_nil)))) (da_cons (de_var 7) da_nil))))) (dw_or1 (dt_not (dt_tru (de_call c__law_same hr rfl (da_cons (de_call c_tells_nothing hr rfl (da_cons (de_var 10) (da_cons de_str da_nil))) (da_cons de_bl da_nil)))))))) (ds_one (ds_ret de_bl)) ds_nil)))
    (ds_cons (ds_for (di_seq (de_lst (da_cons (de_tup (da_cons (de_tup (da_cons (de_tup (da_cons (de_tup (da_cons de_int (da_cons de_int da_nil))) (da_cons (de_tup (da_cons de_int (da_cons de_int da_nil))) da_nil))) (da_cons (de_tup (da_cons (de_tup (da_cons de_int da_nil)) (da_cons (de_tup (da_cons de_int da_nil)) da_nil))) da_nil))) (da_cons de_bl da_nil))) (da_cons (de_tup (da_cons (de_tup (da_cons (de_tup (da_cons (de_tup (da_cons de_int (da_cons de_int da_nil))) da_nil)) (da_cons (de_tup (da_cons (de_tup (da_cons de_int da_nil)) (da_cons (de_tup (da_cons de_int da_nil)) da_nil))) da_nil))) (da_cons de_bl da_nil))) (da_cons (de_tup (da_cons (de_tup (da_cons (de_tup da_nil) (da_cons (de_tup (da_cons (de_tup (da_cons de_int da_nil)) (da_cons (de_tup (da_cons de_int da_nil)) (da_cons (de_tup (da_cons de_int da_nil)) da_nil)))) da_nil))) (da_cons de_bl da_nil))) da_nil))))) (dg_tp (dgs_cons 11 nd (dgs_cons 7 nd dgs_nil)))
      (ds_one (ds_if (dt_not (dt_tru (de_call c__law_same hr rfl (da_cons (de_call c_are_alike hr rfl (da_cons (de_var 4) (da_cons (de_tup (da_cons de_str (da_cons (de_tup da_nil) da_nil))) (da_cons (de_var 9) (da_cons (de_var 11) da_nil))))) (da_cons (de_var 7) da_nil))))) (ds_one (ds_ret de_bl)) ds_nil)))
    (ds_cons (ds_set 12 nd (de_tup (da_cons (de_ix (de_var 4) de_int) (da_cons (de_tup (da_cons (de_tup (da_cons de_str (da_cons (de_tup da_nil) (da_cons (de_tup (da_cons (de_tup (da_cons de_str (da_cons (de_tup (da_cons (de_var 2) da_nil)) (da_cons (de_tup da_nil) da_nil)))) da_nil)) da_nil)))) (da_cons (de_tup (da_cons de_str (da_cons (de_tup da_nil) (da_cons (de_tup (da_cons (de_tup (da_cons de_str (da_cons (de_tup (da_cons (de_var 2) da_nil)) (da_cons (de_tup da_nil) da_nil)))) (da_cons (de_tup (da_cons de_str (da_cons (de_tup (da_cons (de_var 2) da_nil)) (da_cons (de_tup (da_cons de_int da_nil)) da_nil)))) da_nil))) da_nil)))) da_nil))) (da_cons (de_tup da_nil) (da_cons (de_tup da_nil) da_nil))))))
    (ds_cons (ds_if (DW.dt (dw_or (dt_not (dt_tru (de_call c__law_same hr rfl (da_cons (de_call c_idle_windows hr rfl (da_cons (de_var 12) da_nil)) (da_cons (de_tup (da_cons (de_tup (da_cons de_str (da_cons de_str da_nil))) (da_cons (de_tup (da_cons de_str (da_cons de_str da_nil))) (da_cons (de_tup (da_cons de_str (da_cons de_str da_nil))) da_nil)))) da_nil))))) (dw_or1 (dt_not (dt_tru (de_call c__law_same hr rfl (da_cons (de_call c_sizes hr rfl (da_cons (de_var 12) da_nil)) (da_cons (de_tup (da_cons de_int (da_cons de_int (da_cons de_int (da_cons de_int (da_cons de_int (da_cons de_int da_nil))))))) da_nil)))))))) (ds_one (ds_ret de_bl)) ds_nil)
    (ds_one (ds_ret (de_call c__law_same hr rfl (da_cons (de_call c_sizes hr rfl (da_cons (de_var 4) da_nil)) (da_cons (de_tup (da_cons de_int (da_cons de_int (da_cons de_int (da_cons de_int (da_cons de_int (da_cons de_int da_nil))))))) da_nil)))))))))))))))))))))))
end
end K85

set_option maxRecDepth 100000
set_option maxHeartbeats 4000000
namespace K85
open PySem L2 DL
section
variable {P : Program} {w : World} {K : PySem.W.Frag} {mg : Str → Option Value} {base : Heap}
theorem fnok_vac {CX : CXT} {k : Nat} {f : Addr} {fd : FuncData} {ps : List Str} {sp : Sp} (h : ∀ vs H Q E, ¬ sp vs H Q E) : FnOk P w K mg base CX k f fd ps sp :=
  ⟨fun vs H Q E q => (h _ _ _ _ q).elim, fun A outer s H args us vs Q E _ _ _ _ q => (h _ _ _ _ q).elim⟩
theorem bn_literal_parts {K : PySem.W.Frag} {f : Addr} {fd : FuncData} (F : FnP K "literal_parts" "literal_parts" s_literal_parts [] f fd) : Binds K fd ["literal"] [] := FunD.bindsN F fun _ _ _ _ _ _ us hl => match us, hl with | [_], _ => rfl
theorem bn_WayMaker_fact {K : PySem.W.Frag} {f : Addr} {fd : FuncData} (F : FnP K "fact" "WayMaker.fact" s_WayMaker_fact [] f fd) : Binds K fd ["self", "at", "part", "letter"] [] := FunD.bindsN F fun _ _ _ _ _ _ us hl => match us, hl with | [_, _, _, _], _ => rfl
theorem bn_look_fact {K : PySem.W.Frag} {f : Addr} {fd : FuncData} (F : FnP K "look_fact" "look_fact" s_look_fact [.str "v"] f fd) : ∃ ds, Vals [.str "v"] ds ∧ Binds K fd ["look", "letter", "badge"] ds :=
  F.binds1 2 0 (by simp) rfl fun T kV doc pm an cdv ct us its h1 h2 => match us, its, h1, h2 with | [_, _], [_], _, _ => ⟨_, rfl, rfl⟩
theorem cal_same {Z : Res} {f : Addr} {fd : FuncData} (T : Txt mg) (F : FnP K "_law_same" "_law_same" s__law_same [] f fd) (g : mg "_law_same" = some (.ref f)) : ∀ n : Nat, Cal P w K mg base Z (n + 1) "_law_same" (same_n n)
  | 0 => calD (ok__law_same 0 (fun _ _ => False) (fun m e => by cases e) T F (calD (fnok_vac (fun vs H Q E ⟨_, _, _, _, z⟩ => z)) F.kp g (bn__law_same F) (fun _ _ _ _ h => h))) F.kp g (bn__law_same F) mono_same
  | n + 1 => calD (ok__law_same (n + 1) (same_n n) (fun m e => by cases e; rfl) T F (cal_same T F g n)) F.kp g (bn__law_same F) mono_same
theorem mem_lookup {x y : Str} : ∀ {l : List (Str × Str)}, l.lookup x = some y → (x, y) ∈ l
  | [], h => by cases h
  | (a, b) :: l, h => by
    rw [List.lookup_cons] at h
    cases z : (x == a) with
    | true =>
      rw [z] at h
      have e := eq_of_beq z
      cases h
      rw [e]
      exact List.mem_cons_self
    | false =>
      rw [z] at h
      exact List.mem_cons_of_mem _ (mem_lookup h)
theorem wtab_of {x : Str} {tab : List (Str × Str)} (g : mg x = some (.ref (He.ga K x))) (h1 : He.dicW K (He.ga K x) = some (He.keysIn w.params (tab.map (·.1)))) (h2 : (tab.map (·.1)).Nodup) (h3 : tab.length ≤ 100) (h4 : He.valsB K (He.ga K x) (tab.map fun e => (e.1, .str e.2)) = true) : WTab K w mg x tab := by
  refine ⟨_, g, rfl, h1, h2, h3, fun k y e => ?_⟩
  obtain ⟨es, n, D⟩ := He.dicW_ok h1
  obtain ⟨u, hu, hr⟩ := He.valsB_ok h4 (q := (k, .str y)) (List.mem_map.mpr ⟨(k, y), mem_lookup e, rfl⟩)
  exact ⟨es, n, u, D.at_, D.lit, hu, hr⟩
theorem Says.d (c : Says w K) : He.SaysD fa fn K := congrArg (fun z : Al => z.1.1) c
theorem Says.tab (c : Says w K) (i : Nat) {t : He.Tab} (h : tbs[i]? = some t) : He.dicW K (t.1 K) = some (He.keysIn w.params t.2) := by
  have e : tbs.map (fun t => He.dicW K (t.1 K)) = tbs.map fun t => some (He.keysIn w.params t.2) := congrArg (fun z : Al => z.1.2) c
  have e2 : (tbs.map fun t => He.dicW K (t.1 K))[i]? = (tbs.map fun t => some (He.keysIn w.params t.2))[i]? := by rw [e]
  rw [List.getElem?_map, List.getElem?_map, h] at e2
  exact Option.some.inj e2
theorem Says.val (c : Says w K) : vls K = true := congrArg (fun z : Al => z.2) c
end
theorem facts {P : Program} {w : World} {K : PySem.W.Frag} {h : Heap} {mg : Str → Option Value} {f : Addr} (X : K.In h) (G : h.Ns mainGlobals mg) (hfa : mg ("law" : Str) = some (.ref f)) (c : Says w K) :
    ∃ fd : FuncData, (∀ (s : Shared) (v : Value), BindsTo s fd ⟨[v], []⟩ [("script", v)]) ∧ ∀ base : Heap, K.In base → base.Ns mainGlobals mg → FnOk P w K mg base CX0 17 f fd ["script"] (spLaw K) := by
  have d := c.d
  obtain ⟨fd_named, F_named⟩ : ∃ fd, FnP K "named" "named" s_named [] (He.ga K "named") fd := d.def_ 0 (d := d_named) rfl
  have g_named : mg "named" = some (.ref (He.ga K "named")) := He.glo_ok X G (d.fact 0 (f := .glo "named") rfl)
  obtain ⟨fd_table_of, F_table_of⟩ : ∃ fd, FnP K "table_of" "table_of" s_table_of [] (He.ga K "table_of") fd := d.def_ 1 (d := d_table_of) rfl
  have g_table_of : mg "table_of" = some (.ref (He.ga K "table_of")) := He.glo_ok X G (d.fact 1 (f := .glo "table_of") rfl)
  obtain ⟨fd_role_of, F_role_of⟩ : ∃ fd, FnP K "role_of" "role_of" s_role_of [] (He.ga K "role_of") fd := d.def_ 2 (d := d_role_of) rfl
  have g_role_of : mg "role_of" = some (.ref (He.ga K "role_of")) := He.glo_ok X G (d.fact 2 (f := .glo "role_of") rfl)
  obtain ⟨fd_ask_of, F_ask_of⟩ : ∃ fd, FnP K "ask_of" "ask_of" s_ask_of [] (He.ga K "ask_of") fd := d.def_ 3 (d := d_ask_of) rfl
  have g_ask_of : mg "ask_of" = some (.ref (He.ga K "ask_of")) := He.glo_ok X G (d.fact 3 (f := .glo "ask_of") rfl)
  obtain ⟨fd_window_of, F_window_of⟩ : ∃ fd, FnP K "window_of" "window_of" s_window_of [] (He.ga K "window_of") fd := d.def_ 4 (d := d_window_of) rfl
  have g_window_of : mg "window_of" = some (.ref (He.ga K "window_of")) := He.glo_ok X G (d.fact 4 (f := .glo "window_of") rfl)
  obtain ⟨fd_table_place, F_table_place⟩ : ∃ fd, FnP K "table_place" "table_place" s_table_place [] (He.ga K "table_place") fd := d.def_ 5 (d := d_table_place) rfl
  have g_table_place : mg "table_place" = some (.ref (He.ga K "table_place")) := He.glo_ok X G (d.fact 5 (f := .glo "table_place") rfl)
  obtain ⟨fd_ask_tables, F_ask_tables⟩ : ∃ fd, FnP K "ask_tables" "ask_tables" s_ask_tables [] (He.ga K "ask_tables") fd := d.def_ 6 (d := d_ask_tables) rfl
  have g_ask_tables : mg "ask_tables" = some (.ref (He.ga K "ask_tables")) := He.glo_ok X G (d.fact 6 (f := .glo "ask_tables") rfl)
  obtain ⟨fd_told_fields, F_told_fields⟩ : ∃ fd, FnP K "told_fields" "told_fields" s_told_fields [] (He.ga K "told_fields") fd := d.def_ 7 (d := d_told_fields) rfl
  have g_told_fields : mg "told_fields" = some (.ref (He.ga K "told_fields")) := He.glo_ok X G (d.fact 7 (f := .glo "told_fields") rfl)
  obtain ⟨fd_literal_parts, F_literal_parts⟩ : ∃ fd, FnP K "literal_parts" "literal_parts" s_literal_parts [] (He.ga K "literal_parts") fd := d.def_ 8 (d := d_literal_parts) rfl
  have g_literal_parts : mg "literal_parts" = some (.ref (He.ga K "literal_parts")) := He.glo_ok X G (d.fact 8 (f := .glo "literal_parts") rfl)
  obtain ⟨fd_plain_literals, F_plain_literals⟩ : ∃ fd, FnP K "plain_literals" "plain_literals" s_plain_literals [] (He.ga K "plain_literals") fd := d.def_ 9 (d := d_plain_literals) rfl
  have g_plain_literals : mg "plain_literals" = some (.ref (He.ga K "plain_literals")) := He.glo_ok X G (d.fact 9 (f := .glo "plain_literals") rfl)
  obtain ⟨fd_beside_literals, F_beside_literals⟩ : ∃ fd, FnP K "beside_literals" "beside_literals" s_beside_literals [] (He.ga K "beside_literals") fd := d.def_ 10 (d := d_beside_literals) rfl
  have g_beside_literals : mg "beside_literals" = some (.ref (He.ga K "beside_literals")) := He.glo_ok X G (d.fact 10 (f := .glo "beside_literals") rfl)
  obtain ⟨fd_Classes___init__, F_Classes___init__⟩ : ∃ fd, FnP K "__init__" "Classes.__init__" s_Classes___init__ [] (He.ma K (He.ga K "Classes") "__init__") fd := d.def_ 11 (d := d_Classes___init__) rfl
  obtain ⟨fd_Classes_top, F_Classes_top⟩ : ∃ fd, FnP K "top" "Classes.top" s_Classes_top [] (He.ma K (He.ga K "Classes") "top") fd := d.def_ 12 (d := d_Classes_top) rfl
  obtain ⟨fd_Classes_lots, F_Classes_lots⟩ : ∃ fd, FnP K "lots" "Classes.lots" s_Classes_lots [] (He.ma K (He.ga K "Classes") "lots") fd := d.def_ 13 (d := d_Classes_lots) rfl
  obtain ⟨fd_Classes_can_hold, F_Classes_can_hold⟩ : ∃ fd, FnP K "can_hold" "Classes.can_hold" s_Classes_can_hold [] (He.ma K (He.ga K "Classes") "can_hold") fd := d.def_ 14 (d := d_Classes_can_hold) rfl
  obtain ⟨fd_can_hold, F_can_hold⟩ : ∃ fd, FnP K "can_hold" "can_hold" s_can_hold [] (He.ga K "can_hold") fd := d.def_ 15 (d := d_can_hold) rfl
  have g_can_hold : mg "can_hold" = some (.ref (He.ga K "can_hold")) := He.glo_ok X G (d.fact 11 (f := .glo "can_hold") rfl)
  obtain ⟨fd_opposite, F_opposite⟩ : ∃ fd, FnP K "opposite" "opposite" s_opposite [] (He.ga K "opposite") fd := d.def_ 16 (d := d_opposite) rfl
  have g_opposite : mg "opposite" = some (.ref (He.ga K "opposite")) := He.glo_ok X G (d.fact 12 (f := .glo "opposite") rfl)
  obtain ⟨fd_look_fact, F_look_fact⟩ : ∃ fd, FnP K "look_fact" "look_fact" s_look_fact [.str "v"] (He.ga K "look_fact") fd := d.def_ 17 (d := d_look_fact) rfl
  have g_look_fact : mg "look_fact" = some (.ref (He.ga K "look_fact")) := He.glo_ok X G (d.fact 13 (f := .glo "look_fact") rfl)
  obtain ⟨fd_both_lots, F_both_lots⟩ : ∃ fd, FnP K "both_lots" "both_lots" s_both_lots [] (He.ga K "both_lots") fd := d.def_ 18 (d := d_both_lots) rfl
  have g_both_lots : mg "both_lots" = some (.ref (He.ga K "both_lots")) := He.glo_ok X G (d.fact 14 (f := .glo "both_lots") rfl)
  obtain ⟨fd_all_lots, F_all_lots⟩ : ∃ fd, FnP K "all_lots" "all_lots" s_all_lots [] (He.ga K "all_lots") fd := d.def_ 19 (d := d_all_lots) rfl
  have g_all_lots : mg "all_lots" = some (.ref (He.ga K "all_lots")) := He.glo_ok X G (d.fact 15 (f := .glo "all_lots") rfl)
  obtain ⟨fd_seen_lots, F_seen_lots⟩ : ∃ fd, FnP K "seen_lots" "seen_lots" s_seen_lots [] (He.ga K "seen_lots") fd := d.def_ 20 (d := d_seen_lots) rfl
  have g_seen_lots : mg "seen_lots" = some (.ref (He.ga K "seen_lots")) := He.glo_ok X G (d.fact 16 (f := .glo "seen_lots") rfl)
  obtain ⟨fd_unseen_lots, F_unseen_lots⟩ : ∃ fd, FnP K "unseen_lots" "unseen_lots" s_unseen_lots [] (He.ga K "unseen_lots") fd := d.def_ 21 (d := d_unseen_lots) rfl
  have g_unseen_lots : mg "unseen_lots" = some (.ref (He.ga K "unseen_lots")) := He.glo_ok X G (d.fact 17 (f := .glo "unseen_lots") rfl)
  obtain ⟨fd_some_holds, F_some_holds⟩ : ∃ fd, FnP K "some_holds" "some_holds" s_some_holds [] (He.ga K "some_holds") fd := d.def_ 24 (d := d_some_holds) rfl
  have g_some_holds : mg "some_holds" = some (.ref (He.ga K "some_holds")) := He.glo_ok X G (d.fact 20 (f := .glo "some_holds") rfl)
  obtain ⟨fd_lot_facts, F_lot_facts⟩ : ∃ fd, FnP K "lot_facts" "lot_facts" s_lot_facts [] (He.ga K "lot_facts") fd := d.def_ 25 (d := d_lot_facts) rfl
  have g_lot_facts : mg "lot_facts" = some (.ref (He.ga K "lot_facts")) := He.glo_ok X G (d.fact 21 (f := .glo "lot_facts") rfl)
  obtain ⟨fd_is_idle, F_is_idle⟩ : ∃ fd, FnP K "is_idle" "is_idle" s_is_idle [] (He.ga K "is_idle") fd := d.def_ 26 (d := d_is_idle) rfl
  have g_is_idle : mg "is_idle" = some (.ref (He.ga K "is_idle")) := He.glo_ok X G (d.fact 22 (f := .glo "is_idle") rfl)
  obtain ⟨fd_idle_windows, F_idle_windows⟩ : ∃ fd, FnP K "idle_windows" "idle_windows" s_idle_windows [] (He.ga K "idle_windows") fd := d.def_ 27 (d := d_idle_windows) rfl
  have g_idle_windows : mg "idle_windows" = some (.ref (He.ga K "idle_windows")) := He.glo_ok X G (d.fact 23 (f := .glo "idle_windows") rfl)
  obtain ⟨fd_lies_in, F_lies_in⟩ : ∃ fd, FnP K "lies_in" "lies_in" s_lies_in [] (He.ga K "lies_in") fd := d.def_ 28 (d := d_lies_in) rfl
  have g_lies_in : mg "lies_in" = some (.ref (He.ga K "lies_in")) := He.glo_ok X G (d.fact 24 (f := .glo "lies_in") rfl)
  obtain ⟨fd_spare_in, F_spare_in⟩ : ∃ fd, FnP K "spare_in" "spare_in" s_spare_in [] (He.ga K "spare_in") fd := d.def_ 29 (d := d_spare_in) rfl
  have g_spare_in : mg "spare_in" = some (.ref (He.ga K "spare_in")) := He.glo_ok X G (d.fact 25 (f := .glo "spare_in") rfl)
  obtain ⟨fd_spare_lots, F_spare_lots⟩ : ∃ fd, FnP K "spare_lots" "spare_lots" s_spare_lots [] (He.ga K "spare_lots") fd := d.def_ 30 (d := d_spare_lots) rfl
  have g_spare_lots : mg "spare_lots" = some (.ref (He.ga K "spare_lots")) := He.glo_ok X G (d.fact 26 (f := .glo "spare_lots") rfl)
  obtain ⟨fd_trimmed_windows, F_trimmed_windows⟩ : ∃ fd, FnP K "trimmed_windows" "trimmed_windows" s_trimmed_windows [] (He.ga K "trimmed_windows") fd := d.def_ 31 (d := d_trimmed_windows) rfl
  have g_trimmed_windows : mg "trimmed_windows" = some (.ref (He.ga K "trimmed_windows")) := He.glo_ok X G (d.fact 27 (f := .glo "trimmed_windows") rfl)
  obtain ⟨fd_trimmed, F_trimmed⟩ : ∃ fd, FnP K "trimmed" "trimmed" s_trimmed [] (He.ga K "trimmed") fd := d.def_ 32 (d := d_trimmed) rfl
  have g_trimmed : mg "trimmed" = some (.ref (He.ga K "trimmed")) := He.glo_ok X G (d.fact 28 (f := .glo "trimmed") rfl)
  obtain ⟨fd_sizes, F_sizes⟩ : ∃ fd, FnP K "sizes" "sizes" s_sizes [] (He.ga K "sizes") fd := d.def_ 33 (d := d_sizes) rfl
  have g_sizes : mg "sizes" = some (.ref (He.ga K "sizes")) := He.glo_ok X G (d.fact 29 (f := .glo "sizes") rfl)
  obtain ⟨fd_WayMaker___init__, F_WayMaker___init__⟩ : ∃ fd, FnP K "__init__" "WayMaker.__init__" s_WayMaker___init__ [] (He.ma K (He.ga K "WayMaker") "__init__") fd := d.def_ 34 (d := d_WayMaker___init__) rfl
  obtain ⟨fd_WayMaker_fact, F_WayMaker_fact⟩ : ∃ fd, FnP K "fact" "WayMaker.fact" s_WayMaker_fact [] (He.ma K (He.ga K "WayMaker") "fact") fd := d.def_ 36 (d := d_WayMaker_fact) rfl
  obtain ⟨fd_WayMaker_facts, F_WayMaker_facts⟩ : ∃ fd, FnP K "facts" "WayMaker.facts" s_WayMaker_facts [] (He.ma K (He.ga K "WayMaker") "facts") fd := d.def_ 37 (d := d_WayMaker_facts) rfl
  obtain ⟨fd_WayMaker_worth, F_WayMaker_worth⟩ : ∃ fd, FnP K "worth" "WayMaker.worth" s_WayMaker_worth [] (He.ma K (He.ga K "WayMaker") "worth") fd := d.def_ 38 (d := d_WayMaker_worth) rfl
  obtain ⟨fd_WayMaker_naming, F_WayMaker_naming⟩ : ∃ fd, FnP K "naming" "WayMaker.naming" s_WayMaker_naming [] (He.ma K (He.ga K "WayMaker") "naming") fd := d.def_ 39 (d := d_WayMaker_naming) rfl
  obtain ⟨fd_WayMaker_ways, F_WayMaker_ways⟩ : ∃ fd, FnP K "ways" "WayMaker.ways" s_WayMaker_ways [] (He.ma K (He.ga K "WayMaker") "ways") fd := d.def_ 40 (d := d_WayMaker_ways) rfl
  obtain ⟨fd_WayMaker_lots, F_WayMaker_lots⟩ : ∃ fd, FnP K "lots" "WayMaker.lots" s_WayMaker_lots [] (He.ma K (He.ga K "WayMaker") "lots") fd := d.def_ 41 (d := d_WayMaker_lots) rfl
  obtain ⟨fd_WayMaker_put_facts, F_WayMaker_put_facts⟩ : ∃ fd, FnP K "put_facts" "WayMaker.put_facts" s_WayMaker_put_facts [] (He.ma K (He.ga K "WayMaker") "put_facts") fd := d.def_ 42 (d := d_WayMaker_put_facts) rfl
  obtain ⟨fd_own_maker, F_own_maker⟩ : ∃ fd, FnP K "own_maker" "own_maker" s_own_maker [] (He.ga K "own_maker") fd := d.def_ 43 (d := d_own_maker) rfl
  have g_own_maker : mg "own_maker" = some (.ref (He.ga K "own_maker")) := He.glo_ok X G (d.fact 30 (f := .glo "own_maker") rfl)
  obtain ⟨fd_ask_ways, F_ask_ways⟩ : ∃ fd, FnP K "ask_ways" "ask_ways" s_ask_ways [] (He.ga K "ask_ways") fd := d.def_ 44 (d := d_ask_ways) rfl
  have g_ask_ways : mg "ask_ways" = some (.ref (He.ga K "ask_ways")) := He.glo_ok X G (d.fact 31 (f := .glo "ask_ways") rfl)
  obtain ⟨fd_look_value, F_look_value⟩ : ∃ fd, FnP K "look_value" "look_value" s_look_value [] (He.ga K "look_value") fd := d.def_ 45 (d := d_look_value) rfl
  have g_look_value : mg "look_value" = some (.ref (He.ga K "look_value")) := He.glo_ok X G (d.fact 32 (f := .glo "look_value") rfl)
  obtain ⟨fd_lot_holds, F_lot_holds⟩ : ∃ fd, FnP K "lot_holds" "lot_holds" s_lot_holds [] (He.ga K "lot_holds") fd := d.def_ 46 (d := d_lot_holds) rfl
  have g_lot_holds : mg "lot_holds" = some (.ref (He.ga K "lot_holds")) := He.glo_ok X G (d.fact 33 (f := .glo "lot_holds") rfl)
  obtain ⟨fd_show_through, F_show_through⟩ : ∃ fd, FnP K "show_through" "show_through" s_show_through [] (He.ga K "show_through") fd := d.def_ 47 (d := d_show_through) rfl
  have g_show_through : mg "show_through" = some (.ref (He.ga K "show_through")) := He.glo_ok X G (d.fact 34 (f := .glo "show_through") rfl)
  obtain ⟨fd_show_of, F_show_of⟩ : ∃ fd, FnP K "show_of" "show_of" s_show_of [] (He.ga K "show_of") fd := d.def_ 48 (d := d_show_of) rfl
  have g_show_of : mg "show_of" = some (.ref (He.ga K "show_of")) := He.glo_ok X G (d.fact 35 (f := .glo "show_of") rfl)
  obtain ⟨fd_is_seen, F_is_seen⟩ : ∃ fd, FnP K "is_seen" "is_seen" s_is_seen [] (He.ga K "is_seen") fd := d.def_ 49 (d := d_is_seen) rfl
  have g_is_seen : mg "is_seen" = some (.ref (He.ga K "is_seen")) := He.glo_ok X G (d.fact 36 (f := .glo "is_seen") rfl)
  obtain ⟨fd_seen_rows, F_seen_rows⟩ : ∃ fd, FnP K "seen_rows" "seen_rows" s_seen_rows [] (He.ga K "seen_rows") fd := d.def_ 50 (d := d_seen_rows) rfl
  have g_seen_rows : mg "seen_rows" = some (.ref (He.ga K "seen_rows")) := He.glo_ok X G (d.fact 37 (f := .glo "seen_rows") rfl)
  obtain ⟨fd_table_shows, F_table_shows⟩ : ∃ fd, FnP K "table_shows" "table_shows" s_table_shows [] (He.ga K "table_shows") fd := d.def_ 51 (d := d_table_shows) rfl
  have g_table_shows : mg "table_shows" = some (.ref (He.ga K "table_shows")) := He.glo_ok X G (d.fact 38 (f := .glo "table_shows") rfl)
  obtain ⟨fd_sight_of, F_sight_of⟩ : ∃ fd, FnP K "sight_of" "sight_of" s_sight_of [] (He.ga K "sight_of") fd := d.def_ 52 (d := d_sight_of) rfl
  have g_sight_of : mg "sight_of" = some (.ref (He.ga K "sight_of")) := He.glo_ok X G (d.fact 39 (f := .glo "sight_of") rfl)
  obtain ⟨fd_are_alike, F_are_alike⟩ : ∃ fd, FnP K "are_alike" "are_alike" s_are_alike [] (He.ga K "are_alike") fd := d.def_ 53 (d := d_are_alike) rfl
  have g_are_alike : mg "are_alike" = some (.ref (He.ga K "are_alike")) := He.glo_ok X G (d.fact 40 (f := .glo "are_alike") rfl)
  obtain ⟨fd_tells_nothing, F_tells_nothing⟩ : ∃ fd, FnP K "tells_nothing" "tells_nothing" s_tells_nothing [] (He.ga K "tells_nothing") fd := d.def_ 54 (d := d_tells_nothing) rfl
  have g_tells_nothing : mg "tells_nothing" = some (.ref (He.ga K "tells_nothing")) := He.glo_ok X G (d.fact 41 (f := .glo "tells_nothing") rfl)
  obtain ⟨fd__law_barn, F__law_barn⟩ : ∃ fd, FnP K "_law_barn" "_law_barn" s__law_barn [] (He.ga K "_law_barn") fd := d.def_ 55 (d := d__law_barn) rfl
  have g__law_barn : mg "_law_barn" = some (.ref (He.ga K "_law_barn")) := He.glo_ok X G (d.fact 42 (f := .glo "_law_barn") rfl)
  obtain ⟨fd__law_bale, F__law_bale⟩ : ∃ fd, FnP K "_law_bale" "_law_bale" s__law_bale [] (He.ga K "_law_bale") fd := d.def_ 56 (d := d__law_bale) rfl
  have g__law_bale : mg "_law_bale" = some (.ref (He.ga K "_law_bale")) := He.glo_ok X G (d.fact 43 (f := .glo "_law_bale") rfl)
  obtain ⟨fd__law_door, F__law_door⟩ : ∃ fd, FnP K "_law_door" "_law_door" s__law_door [] (He.ga K "_law_door") fd := d.def_ 57 (d := d__law_door) rfl
  have g__law_door : mg "_law_door" = some (.ref (He.ga K "_law_door")) := He.glo_ok X G (d.fact 44 (f := .glo "_law_door") rfl)
  obtain ⟨fd__law_look, F__law_look⟩ : ∃ fd, FnP K "_law_look" "_law_look" s__law_look [] (He.ga K "_law_look") fd := d.def_ 58 (d := d__law_look) rfl
  have g__law_look : mg "_law_look" = some (.ref (He.ga K "_law_look")) := He.glo_ok X G (d.fact 45 (f := .glo "_law_look") rfl)
  obtain ⟨fd__law_lot, F__law_lot⟩ : ∃ fd, FnP K "_law_lot" "_law_lot" s__law_lot [] (He.ga K "_law_lot") fd := d.def_ 59 (d := d__law_lot) rfl
  have g__law_lot : mg "_law_lot" = some (.ref (He.ga K "_law_lot")) := He.glo_ok X G (d.fact 46 (f := .glo "_law_lot") rfl)
  obtain ⟨fd__law_other, F__law_other⟩ : ∃ fd, FnP K "_law_other" "_law_other" s__law_other [] (He.ga K "_law_other") fd := d.def_ 60 (d := d__law_other) rfl
  have g__law_other : mg "_law_other" = some (.ref (He.ga K "_law_other")) := He.glo_ok X G (d.fact 47 (f := .glo "_law_other") rfl)
  obtain ⟨fd__law_second, F__law_second⟩ : ∃ fd, FnP K "_law_second" "_law_second" s__law_second [] (He.ga K "_law_second") fd := d.def_ 61 (d := d__law_second) rfl
  have g__law_second : mg "_law_second" = some (.ref (He.ga K "_law_second")) := He.glo_ok X G (d.fact 48 (f := .glo "_law_second") rfl)
  obtain ⟨fd__law_app, F__law_app⟩ : ∃ fd, FnP K "_law_app" "_law_app" s__law_app [] (He.ga K "_law_app") fd := d.def_ 62 (d := d__law_app) rfl
  have g__law_app : mg "_law_app" = some (.ref (He.ga K "_law_app")) := He.glo_ok X G (d.fact 49 (f := .glo "_law_app") rfl)
  obtain ⟨fd__law_facts, F__law_facts⟩ : ∃ fd, FnP K "_law_facts" "_law_facts" s__law_facts [] (He.ga K "_law_facts") fd := d.def_ 63 (d := d__law_facts) rfl
  have g__law_facts : mg "_law_facts" = some (.ref (He.ga K "_law_facts")) := He.glo_ok X G (d.fact 50 (f := .glo "_law_facts") rfl)
  obtain ⟨fd__law_can, F__law_can⟩ : ∃ fd, FnP K "_law_can" "_law_can" s__law_can [] (He.ga K "_law_can") fd := d.def_ 64 (d := d__law_can) rfl
  have g__law_can : mg "_law_can" = some (.ref (He.ga K "_law_can")) := He.glo_ok X G (d.fact 51 (f := .glo "_law_can") rfl)
  obtain ⟨fd__law_inside, F__law_inside⟩ : ∃ fd, FnP K "_law_inside" "_law_inside" s__law_inside [] (He.ga K "_law_inside") fd := d.def_ 65 (d := d__law_inside) rfl
  have g__law_inside : mg "_law_inside" = some (.ref (He.ga K "_law_inside")) := He.glo_ok X G (d.fact 52 (f := .glo "_law_inside") rfl)
  obtain ⟨fd__law_spare, F__law_spare⟩ : ∃ fd, FnP K "_law_spare" "_law_spare" s__law_spare [] (He.ga K "_law_spare") fd := d.def_ 66 (d := d__law_spare) rfl
  have g__law_spare : mg "_law_spare" = some (.ref (He.ga K "_law_spare")) := He.glo_ok X G (d.fact 53 (f := .glo "_law_spare") rfl)
  obtain ⟨fd__law_idle, F__law_idle⟩ : ∃ fd, FnP K "_law_idle" "_law_idle" s__law_idle [] (He.ga K "_law_idle") fd := d.def_ 67 (d := d__law_idle) rfl
  have g__law_idle : mg "_law_idle" = some (.ref (He.ga K "_law_idle")) := He.glo_ok X G (d.fact 54 (f := .glo "_law_idle") rfl)
  obtain ⟨fd__law_trimmed, F__law_trimmed⟩ : ∃ fd, FnP K "_law_trimmed" "_law_trimmed" s__law_trimmed [] (He.ga K "_law_trimmed") fd := d.def_ 68 (d := d__law_trimmed) rfl
  have g__law_trimmed : mg "_law_trimmed" = some (.ref (He.ga K "_law_trimmed")) := He.glo_ok X G (d.fact 55 (f := .glo "_law_trimmed") rfl)
  obtain ⟨fd__law_unseen, F__law_unseen⟩ : ∃ fd, FnP K "_law_unseen" "_law_unseen" s__law_unseen [] (He.ga K "_law_unseen") fd := d.def_ 69 (d := d__law_unseen) rfl
  have g__law_unseen : mg "_law_unseen" = some (.ref (He.ga K "_law_unseen")) := He.glo_ok X G (d.fact 56 (f := .glo "_law_unseen") rfl)
  obtain ⟨fd__law_value, F__law_value⟩ : ∃ fd, FnP K "_law_value" "_law_value" s__law_value [] (He.ga K "_law_value") fd := d.def_ 70 (d := d__law_value) rfl
  have g__law_value : mg "_law_value" = some (.ref (He.ga K "_law_value")) := He.glo_ok X G (d.fact 57 (f := .glo "_law_value") rfl)
  obtain ⟨fd__law_sees, F__law_sees⟩ : ∃ fd, FnP K "_law_sees" "_law_sees" s__law_sees [] (He.ga K "_law_sees") fd := d.def_ 71 (d := d__law_sees) rfl
  have g__law_sees : mg "_law_sees" = some (.ref (He.ga K "_law_sees")) := He.glo_ok X G (d.fact 58 (f := .glo "_law_sees") rfl)
  obtain ⟨fd__law_sight, F__law_sight⟩ : ∃ fd, FnP K "_law_sight" "_law_sight" s__law_sight [] (He.ga K "_law_sight") fd := d.def_ 72 (d := d__law_sight) rfl
  have g__law_sight : mg "_law_sight" = some (.ref (He.ga K "_law_sight")) := He.glo_ok X G (d.fact 59 (f := .glo "_law_sight") rfl)
  obtain ⟨fd__law_same, F__law_same⟩ : ∃ fd, FnP K "_law_same" "_law_same" s__law_same [] (He.ga K "_law_same") fd := d.def_ 73 (d := d__law_same) rfl
  have g__law_same : mg "_law_same" = some (.ref (He.ga K "_law_same")) := He.glo_ok X G (d.fact 60 (f := .glo "_law_same") rfl)
  obtain ⟨fd__law_is_term, F__law_is_term⟩ : ∃ fd, FnP K "_law_is_term" "_law_is_term" s__law_is_term [] (He.ga K "_law_is_term") fd := d.def_ 74 (d := d__law_is_term) rfl
  have g__law_is_term : mg "_law_is_term" = some (.ref (He.ga K "_law_is_term")) := He.glo_ok X G (d.fact 61 (f := .glo "_law_is_term") rfl)
  obtain ⟨fd__law_lot_same, F__law_lot_same⟩ : ∃ fd, FnP K "_law_lot_same" "_law_lot_same" s__law_lot_same [] (He.ga K "_law_lot_same") fd := d.def_ 75 (d := d__law_lot_same) rfl
  have g__law_lot_same : mg "_law_lot_same" = some (.ref (He.ga K "_law_lot_same")) := He.glo_ok X G (d.fact 62 (f := .glo "_law_lot_same") rfl)
  obtain ⟨fd__law_windows_right, F__law_windows_right⟩ : ∃ fd, FnP K "_law_windows_right" "_law_windows_right" s__law_windows_right [] (He.ga K "_law_windows_right") fd := d.def_ 76 (d := d__law_windows_right) rfl
  have g__law_windows_right : mg "_law_windows_right" = some (.ref (He.ga K "_law_windows_right")) := He.glo_ok X G (d.fact 63 (f := .glo "_law_windows_right") rfl)
  obtain ⟨fd__law_asks_right, F__law_asks_right⟩ : ∃ fd, FnP K "_law_asks_right" "_law_asks_right" s__law_asks_right [] (He.ga K "_law_asks_right") fd := d.def_ 77 (d := d__law_asks_right) rfl
  have g__law_asks_right : mg "_law_asks_right" = some (.ref (He.ga K "_law_asks_right")) := He.glo_ok X G (d.fact 64 (f := .glo "_law_asks_right") rfl)
  obtain ⟨fd__law_store, F__law_store⟩ : ∃ fd, FnP K "_law_store" "_law_store" s__law_store [] (He.ga K "_law_store") fd := d.def_ 78 (d := d__law_store) rfl
  have g__law_store : mg "_law_store" = some (.ref (He.ga K "_law_store")) := He.glo_ok X G (d.fact 65 (f := .glo "_law_store") rfl)
  obtain ⟨fd__law_sights_right, F__law_sights_right⟩ : ∃ fd, FnP K "_law_sights_right" "_law_sights_right" s__law_sights_right [] (He.ga K "_law_sights_right") fd := d.def_ 79 (d := d__law_sights_right) rfl
  have g__law_sights_right : mg "_law_sights_right" = some (.ref (He.ga K "_law_sights_right")) := He.glo_ok X G (d.fact 66 (f := .glo "_law_sights_right") rfl)
  obtain ⟨fd__law_by_hand, F__law_by_hand⟩ : ∃ fd, FnP K "_law_by_hand" "_law_by_hand" s__law_by_hand [] (He.ga K "_law_by_hand") fd := d.def_ 80 (d := d__law_by_hand) rfl
  have g__law_by_hand : mg "_law_by_hand" = some (.ref (He.ga K "_law_by_hand")) := He.glo_ok X G (d.fact 67 (f := .glo "_law_by_hand") rfl)
  obtain ⟨fd_law, F_law⟩ : ∃ fd, FnP K "law" "law" s_law [] (He.ga K "law") fd := d.def_ 81 (d := d_law) rfl
  have g_law : mg "law" = some (.ref (He.ga K "law")) := He.glo_ok X G (d.fact 68 (f := .glo "law") rfl)
  have g_Classes : mg "Classes" = some (.ref (He.ga K "Classes")) := He.glo_ok X G (d.fact 84 (f := .glo "Classes") rfl)
  have mkk_Classes : Mk K (He.ga K "Classes") (He.ma K (He.ga K "Classes") "__init__") := He.mkr_ok (d.fact 86 (f := .mkr "Classes") rfl)
  have g_WayMaker : mg "WayMaker" = some (.ref (He.ga K "WayMaker")) := He.glo_ok X G (d.fact 92 (f := .glo "WayMaker") rfl)
  have mkk_WayMaker : Mk K (He.ga K "WayMaker") (He.ma K (He.ga K "WayMaker") "__init__") := He.mkr_ok (d.fact 94 (f := .mkr "WayMaker") rfl)
  have m_Classes_top : Meth K (He.ga K "Classes") "top" (He.ma K (He.ga K "Classes") "top") := He.meth_ok (d.fact 89 (f := .meth "Classes" "top") rfl)
  have m_Classes_lots : Meth K (He.ga K "Classes") "lots" (He.ma K (He.ga K "Classes") "lots") := He.meth_ok (d.fact 90 (f := .meth "Classes" "lots") rfl)
  have m_Classes_can_hold : Meth K (He.ga K "Classes") "can_hold" (He.ma K (He.ga K "Classes") "can_hold") := He.meth_ok (d.fact 91 (f := .meth "Classes" "can_hold") rfl)
  have m_WayMaker_fact : Meth K (He.ga K "WayMaker") "fact" (He.ma K (He.ga K "WayMaker") "fact") := He.meth_ok (d.fact 101 (f := .meth "WayMaker" "fact") rfl)
  have m_WayMaker_facts : Meth K (He.ga K "WayMaker") "facts" (He.ma K (He.ga K "WayMaker") "facts") := He.meth_ok (d.fact 102 (f := .meth "WayMaker" "facts") rfl)
  have m_WayMaker_worth : Meth K (He.ga K "WayMaker") "worth" (He.ma K (He.ga K "WayMaker") "worth") := He.meth_ok (d.fact 103 (f := .meth "WayMaker" "worth") rfl)
  have m_WayMaker_naming : Meth K (He.ga K "WayMaker") "naming" (He.ma K (He.ga K "WayMaker") "naming") := He.meth_ok (d.fact 104 (f := .meth "WayMaker" "naming") rfl)
  have m_WayMaker_ways : Meth K (He.ga K "WayMaker") "ways" (He.ma K (He.ga K "WayMaker") "ways") := He.meth_ok (d.fact 105 (f := .meth "WayMaker" "ways") rfl)
  have m_WayMaker_lots : Meth K (He.ga K "WayMaker") "lots" (He.ma K (He.ga K "WayMaker") "lots") := He.meth_ok (d.fact 106 (f := .meth "WayMaker" "lots") rfl)
  have m_WayMaker_put_facts : Meth K (He.ga K "WayMaker") "put_facts" (He.ma K (He.ga K "WayMaker") "put_facts") := He.meth_ok (d.fact 107 (f := .meth "WayMaker" "put_facts") rfl)
  have T : Txt mg := ⟨He.free_ok X G (d.fact 69 (f := .free "len") rfl), He.free_ok X G (d.fact 70 (f := .free "tuple") rfl), He.free_ok X G (d.fact 71 (f := .free "list") rfl), He.free_ok X G (d.fact 72 (f := .free "int") rfl), He.free_ok X G (d.fact 73 (f := .free "sorted") rfl), He.free_ok X G (d.fact 74 (f := .free "sum") rfl), He.free_ok X G (d.fact 75 (f := .free "min") rfl), He.free_ok X G (d.fact 76 (f := .free "max") rfl), He.free_ok X G (d.fact 77 (f := .free "range") rfl), He.free_ok X G (d.fact 78 (f := .free "enumerate") rfl), He.free_ok X G (d.fact 79 (f := .free "isinstance") rfl), He.free_ok X G (d.fact 80 (f := .free "str") rfl), He.free_ok X G (d.fact 81 (f := .free "bool") rfl), He.free_ok X G (d.fact 82 (f := .free "dict") rfl), He.free_ok X G (d.fact 83 (f := .free "abs") rfl)⟩
  have ML : CLC K (He.ga K "Classes") := ⟨He.cls_ok (d.fact 85 (f := .cls "Classes") rfl), He.noat_ok (d.fact 87 (f := .noat "Classes" "facts") rfl), He.noat_ok (d.fact 88 (f := .noat "Classes" "over") rfl)⟩
  have M : WMC K (He.ga K "WayMaker") := ⟨He.cls_ok (d.fact 93 (f := .cls "WayMaker") rfl), He.noat_ok (d.fact 95 (f := .noat "WayMaker" "app") rfl), He.noat_ok (d.fact 96 (f := .noat "WayMaker" "ask") rfl), He.noat_ok (d.fact 97 (f := .noat "WayMaker" "role") rfl), He.noat_ok (d.fact 99 (f := .noat "WayMaker" "beside") rfl)⟩
  have hle : NoAttr K (He.ga K "WayMaker") "letters" := He.noat_ok (d.fact 98 (f := .noat "WayMaker" "letters") rfl)
  have vv := c.val
  obtain ⟨v1, v2⟩ := He.ba vv
  have t_OPPOSITES : WTab K w mg "OPPOSITES" tab_OPPOSITES := wtab_of (He.glo_ok X G (d.fact 108 (f := .glo "OPPOSITES") rfl)) (c.tab 0 rfl) (by decide +kernel) (by decide) v1
  have t_OWN : WTab K w mg "OWN" tab_OWN := wtab_of (He.glo_ok X G (d.fact 109 (f := .glo "OWN") rfl)) (c.tab 1 rfl) (by decide +kernel) (by decide) v2
  have e := hfa.symm.trans g_law
  cases e
  have bl := FunD.bindsA (ps := ["script"]) F_law fun _ _ _ _ _ _ us hl => match us, hl with | [_], _ => rfl
  refine ⟨fd_law, fun s v => bl s [v] rfl, fun base _ _ => ?_⟩
  have c_can_hold : ∀ Z : Res, Cal P w K mg base Z 10 "can_hold" sp_can_hold := fun Z => calD (ok_can_hold ML T F_can_hold g_Classes mkk_Classes F_Classes___init__ F_Classes_top m_Classes_top F_Classes_lots m_Classes_lots F_Classes_can_hold m_Classes_can_hold) F_can_hold.kp g_can_hold (bn_can_hold F_can_hold) spV_mono
  have mk_WayMaker' : ∀ Z : Res, Mkr P w K mg base Z 1 "WayMaker" (mk_sp_WayMaker K (He.ga K "WayMaker")) := fun Z => mk_WayMaker M hle T F_WayMaker___init__ mkk_WayMaker g_WayMaker
  have c_literal_parts : ∀ Z : Res, Cal P w K mg base Z 1 "literal_parts" sp_literal_parts := fun Z => calD (fnok_vac (fun vs H Q E ⟨_, _, _, _, a, _⟩ => a.elim)) F_literal_parts.kp g_literal_parts (bn_literal_parts F_literal_parts) spV_mono
  have c_WayMaker_fact : ∀ Z : Res, Mth P w K mg base Z 1 (He.ga K "WayMaker") "fact" (sp_WayMaker_fact K (He.ga K "WayMaker")) := fun Z => mthD (fnok_vac (fun vs H Q E ⟨_, _, _, _, a, _⟩ => a.elim)) M.cls m_WayMaker_fact (bn_WayMaker_fact F_WayMaker_fact) spV_mono
  have c__law_bale : ∀ b : Addr, Cal P w K mg base (Zb b) 1 "_law_bale" (sp__law_bale b) := fun b => calD (ok__law_bale T F__law_bale) F__law_bale.kp g__law_bale (bn__law_bale F__law_bale) mono__law_bale
  have c__law_door : ∀ b : Addr, Cal P w K mg base (Zb b) 2 "_law_door" (sp__law_door b) := fun b => calD (ok__law_door T F__law_door F__law_bale g__law_bale) F__law_door.kp g__law_door (bn__law_door F__law_door) mono__law_door
  have c_named : ∀ Z : Res, Cal P w K mg base Z 1 "named" sp_named := fun Z => calD (ok_named T F_named) F_named.kp g_named (bn_named F_named) spV_mono
  have c_table_of : ∀ Z : Res, Cal P w K mg base Z 2 "table_of" sp_table_of := fun Z => calD (ok_table_of T F_table_of (c_named _)) F_table_of.kp g_table_of (bn_table_of F_table_of) spV_mono
  have c_role_of : ∀ Z : Res, Cal P w K mg base Z 2 "role_of" sp_role_of := fun Z => calD (ok_role_of T F_role_of (c_named _)) F_role_of.kp g_role_of (bn_role_of F_role_of) spV_mono
  have c_ask_of : ∀ Z : Res, Cal P w K mg base Z 2 "ask_of" sp_ask_of := fun Z => calD (ok_ask_of T F_ask_of (c_named _)) F_ask_of.kp g_ask_of (bn_ask_of F_ask_of) spV_mono
  have c_window_of : ∀ Z : Res, Cal P w K mg base Z 3 "window_of" sp_window_of := fun Z => calD (ok_window_of T F_window_of (c_role_of _) (c_table_of _)) F_window_of.kp g_window_of (bn_window_of F_window_of) spV_mono
  have c_table_place : ∀ Z : Res, Cal P w K mg base Z 1 "table_place" sp_table_place := fun Z => calD (ok_table_place T F_table_place) F_table_place.kp g_table_place (bn_table_place F_table_place) spV_mono
  have c_ask_tables : ∀ Z : Res, Cal P w K mg base Z 1 "ask_tables" sp_ask_tables := fun Z => calD (ok_ask_tables T F_ask_tables) F_ask_tables.kp g_ask_tables (bn_ask_tables F_ask_tables) spV_mono
  have c_told_fields : ∀ Z : Res, Cal P w K mg base Z 1 "told_fields" sp_told_fields := fun Z => calD (ok_told_fields T F_told_fields) F_told_fields.kp g_told_fields (bn_told_fields F_told_fields) spV_mono
  have c_plain_literals : ∀ Z : Res, Cal P w K mg base Z 2 "plain_literals" sp_plain_literals := fun Z => calD (ok_plain_literals T F_plain_literals (c_literal_parts _)) F_plain_literals.kp g_plain_literals (bn_plain_literals F_plain_literals) spV_mono
  have c_beside_literals : ∀ Z : Res, Cal P w K mg base Z 2 "beside_literals" sp_beside_literals := fun Z => calD (ok_beside_literals T F_beside_literals (c_literal_parts _)) F_beside_literals.kp g_beside_literals (bn_beside_literals F_beside_literals) spV_mono
  have c_opposite : ∀ Z : Res, Cal P w K mg base Z 1 "opposite" sp_opposite := fun Z => calD (ok_opposite T F_opposite t_OPPOSITES) F_opposite.kp g_opposite (bn_opposite F_opposite) spV_mono
  obtain ⟨dl, hv, hb⟩ := bn_look_fact F_look_fact
  have c_look_fact : ∀ Z : Res, Cal P w K mg base Z 1 "look_fact" sp_look_fact := fun Z => calDf (sp0 := sp0_look_fact) (dxs := [.d (.str "v")]) (ok_look_fact T F_look_fact) F_look_fact.kp g_look_fact hb hv spV_mono (fun B => .cons (.str _) .nil) fun xs Q ⟨a, e, _, q⟩ => by subst e; exact ⟨a, rfl, trivial, q⟩
  have c_both_lots : ∀ Z : Res, Cal P w K mg base Z 1 "both_lots" sp_both_lots := fun Z => calD (ok_both_lots T F_both_lots) F_both_lots.kp g_both_lots (bn_both_lots F_both_lots) spV_mono
  have c_all_lots : ∀ Z : Res, Cal P w K mg base Z 2 "all_lots" sp_all_lots := fun Z => calD (ok_all_lots T F_all_lots (c_both_lots _)) F_all_lots.kp g_all_lots (bn_all_lots F_all_lots) spV_mono
  have c_seen_lots : ∀ Z : Res, Cal P w K mg base Z 4 "seen_lots" sp_seen_lots := fun Z => calD (ok_seen_lots T F_seen_lots (c_look_fact _) (c_window_of _)) F_seen_lots.kp g_seen_lots (bn_seen_lots F_seen_lots) spV_mono
  have c_unseen_lots : ∀ Z : Res, Cal P w K mg base Z 5 "unseen_lots" sp_unseen_lots := fun Z => calD (ok_unseen_lots T F_unseen_lots (c_all_lots _) (c_opposite _) (c_seen_lots _) (c_window_of _)) F_unseen_lots.kp g_unseen_lots (bn_unseen_lots F_unseen_lots) spV_mono
  have c_some_holds : ∀ Z : Res, Cal P w K mg base Z 11 "some_holds" sp_some_holds := fun Z => calD (ok_some_holds T F_some_holds (c_can_hold _)) F_some_holds.kp g_some_holds (bn_some_holds F_some_holds) spV_mono
  have c_lot_facts : ∀ Z : Res, Cal P w K mg base Z 2 "lot_facts" sp_lot_facts := fun Z => calD (ok_lot_facts T F_lot_facts (c_look_fact _)) F_lot_facts.kp g_lot_facts (bn_lot_facts F_lot_facts) spV_mono
  have c_is_idle : ∀ Z : Res, Cal P w K mg base Z 12 "is_idle" sp_is_idle := fun Z => calD (ok_is_idle T F_is_idle (c_lot_facts _) (c_some_holds _)) F_is_idle.kp g_is_idle (bn_is_idle F_is_idle) spV_mono
  have c_idle_windows : ∀ Z : Res, Cal P w K mg base Z 13 "idle_windows" sp_idle_windows := fun Z => calD (ok_idle_windows T F_idle_windows (c_is_idle _)) F_idle_windows.kp g_idle_windows (bn_idle_windows F_idle_windows) spV_mono
  have c_lies_in : ∀ Z : Res, Cal P w K mg base Z 11 "lies_in" sp_lies_in := fun Z => calD (ok_lies_in T F_lies_in (c_can_hold _) (c_lot_facts _) (c_opposite _)) F_lies_in.kp g_lies_in (bn_lies_in F_lies_in) spV_mono
  have c_spare_in : ∀ Z : Res, Cal P w K mg base Z 12 "spare_in" sp_spare_in := fun Z => calD (ok_spare_in T F_spare_in (c_lies_in _)) F_spare_in.kp g_spare_in (bn_spare_in F_spare_in) spV_mono
  have c_spare_lots : ∀ Z : Res, Cal P w K mg base Z 13 "spare_lots" sp_spare_lots := fun Z => calD (ok_spare_lots T F_spare_lots (c_spare_in _) (c_window_of _)) F_spare_lots.kp g_spare_lots (bn_spare_lots F_spare_lots) spV_mono
  have c_trimmed_windows : ∀ Z : Res, Cal P w K mg base Z 13 "trimmed_windows" sp_trimmed_windows := fun Z => calD (ok_trimmed_windows T F_trimmed_windows (c_is_idle _) (c_spare_in _)) F_trimmed_windows.kp g_trimmed_windows (bn_trimmed_windows F_trimmed_windows) spV_mono
  have c_trimmed : ∀ Z : Res, Cal P w K mg base Z 14 "trimmed" sp_trimmed := fun Z => calD (ok_trimmed T F_trimmed (c_trimmed_windows _)) F_trimmed.kp g_trimmed (bn_trimmed F_trimmed) spV_mono
  have c_sizes : ∀ Z : Res, Cal P w K mg base Z 1 "sizes" sp_sizes := fun Z => calD (ok_sizes T F_sizes) F_sizes.kp g_sizes (bn_sizes F_sizes) spV_mono
  have c_WayMaker_facts : ∀ Z : Res, Mth P w K mg base Z 2 (He.ga K "WayMaker") "facts" (sp_WayMaker_facts K (He.ga K "WayMaker")) := fun Z => mthD (ok_WayMaker_facts T F_WayMaker_facts M (c_WayMaker_fact _)) M.cls m_WayMaker_facts (bn_WayMaker_facts F_WayMaker_facts) spV_mono
  have c_WayMaker_worth : ∀ Z : Res, Mth P w K mg base Z 1 (He.ga K "WayMaker") "worth" (sp_WayMaker_worth K (He.ga K "WayMaker")) := fun Z => mthD (ok_WayMaker_worth T F_WayMaker_worth M) M.cls m_WayMaker_worth (bn_WayMaker_worth F_WayMaker_worth) spV_mono
  have c_WayMaker_naming : ∀ Z : Res, Mth P w K mg base Z 2 (He.ga K "WayMaker") "naming" (sp_WayMaker_naming K (He.ga K "WayMaker")) := fun Z => mthD (ok_WayMaker_naming T F_WayMaker_naming M (c_literal_parts _)) M.cls m_WayMaker_naming (bn_WayMaker_naming F_WayMaker_naming) spV_mono
  have c_WayMaker_ways : ∀ Z : Res, Mth P w K mg base Z 3 (He.ga K "WayMaker") "ways" (sp_WayMaker_ways K (He.ga K "WayMaker")) := fun Z => mthD (ok_WayMaker_ways T F_WayMaker_ways M (c_WayMaker_naming _) (c_beside_literals _) (c_plain_literals _) (c_told_fields _)) M.cls m_WayMaker_ways (bn_WayMaker_ways F_WayMaker_ways) spV_mono
  have c_WayMaker_put_facts : ∀ Z : Res, Mth P w K mg base Z 3 (He.ga K "WayMaker") "put_facts" (sp_WayMaker_put_facts K (He.ga K "WayMaker")) := fun Z => mthD (ok_WayMaker_put_facts T F_WayMaker_put_facts M (c_WayMaker_facts _) (c_beside_literals _) (c_plain_literals _)) M.cls m_WayMaker_put_facts (bn_WayMaker_put_facts F_WayMaker_put_facts) spV_mono
  have c_WayMaker_lots : ∀ Z : Res, Mth P w K mg base Z 6 (He.ga K "WayMaker") "lots" (sp_WayMaker_lots K (He.ga K "WayMaker")) := fun Z => mthD (ok_WayMaker_lots T F_WayMaker_lots M (c_WayMaker_put_facts _) (c_WayMaker_worth _) (c_all_lots _) (c_ask_tables _) (c_unseen_lots _)) M.cls m_WayMaker_lots (bn_WayMaker_lots F_WayMaker_lots) spV_mono
  have c_own_maker : ∀ Z : Res, Cal P w K mg base Z 3 "own_maker" (sp_own_maker K (He.ga K "WayMaker")) := fun Z => calD (ok_own_maker T F_own_maker M t_OWN (mk_WayMaker' _) (c_ask_of _)) F_own_maker.kp g_own_maker (bn_own_maker F_own_maker) mono_own_maker
  have c_ask_ways : ∀ Z : Res, Cal P w K mg base Z 12 "ask_ways" sp_ask_ways := fun Z => calD (ok_ask_ways T F_ask_ways M (c_WayMaker_lots _) (c_WayMaker_ways _) (c_own_maker _) (c_some_holds _)) F_ask_ways.kp g_ask_ways (bn_ask_ways F_ask_ways) spV_mono
  have c_look_value : ∀ Z : Res, Cal P w K mg base Z 1 "look_value" sp_look_value := fun Z => calD (ok_look_value T F_look_value) F_look_value.kp g_look_value (bn_look_value F_look_value) spV_mono
  have c_lot_holds : ∀ Z : Res, Cal P w K mg base Z 2 "lot_holds" sp_lot_holds := fun Z => calD (ok_lot_holds T F_lot_holds (c_look_value _)) F_lot_holds.kp g_lot_holds (bn_lot_holds F_lot_holds) spV_mono
  have c_show_through : ∀ Z : Res, Cal P w K mg base Z 3 "show_through" sp_show_through := fun Z => calD (ok_show_through T F_show_through (c_lot_holds _)) F_show_through.kp g_show_through (bn_show_through F_show_through) spV_mono
  have c_show_of : ∀ Z : Res, Cal P w K mg base Z 4 "show_of" sp_show_of := fun Z => calD (ok_show_of T F_show_of (c_show_through _) (c_window_of _)) F_show_of.kp g_show_of (bn_show_of F_show_of) spV_mono
  have c_is_seen : ∀ Z : Res, Cal P w K mg base Z 5 "is_seen" sp_is_seen := fun Z => calD (ok_is_seen T F_is_seen (c_show_of _)) F_is_seen.kp g_is_seen (bn_is_seen F_is_seen) spV_mono
  have c_seen_rows : ∀ Z : Res, Cal P w K mg base Z 6 "seen_rows" sp_seen_rows := fun Z => calD (ok_seen_rows T F_seen_rows (c_is_seen _) (c_table_place _)) F_seen_rows.kp g_seen_rows (bn_seen_rows F_seen_rows) spV_mono
  have c_table_shows : ∀ Z : Res, Cal P w K mg base Z 7 "table_shows" sp_table_shows := fun Z => calD (ok_table_shows T F_table_shows (c_seen_rows _) (c_show_of _) (c_window_of _)) F_table_shows.kp g_table_shows (bn_table_shows F_table_shows) spV_mono
  have c_sight_of : ∀ Z : Res, Cal P w K mg base Z 8 "sight_of" sp_sight_of := fun Z => calD (ok_sight_of T F_sight_of (c_table_shows _)) F_sight_of.kp g_sight_of (bn_sight_of F_sight_of) spV_mono
  have c_are_alike : ∀ Z : Res, Cal P w K mg base Z 9 "are_alike" sp_are_alike := fun Z => calD (ok_are_alike T F_are_alike (c_sight_of _)) F_are_alike.kp g_are_alike (bn_are_alike F_are_alike) spV_mono
  have c_tells_nothing : ∀ Z : Res, Cal P w K mg base Z 13 "tells_nothing" sp_tells_nothing := fun Z => calD (ok_tells_nothing T F_tells_nothing (c_ask_ways _)) F_tells_nothing.kp g_tells_nothing (bn_tells_nothing F_tells_nothing) spV_mono
  have c__law_look : ∀ b : Addr, Cal P w K mg base (Zb b) 3 "_law_look" (sp__law_look b) := fun b => calD (ok__law_look T F__law_look (c__law_bale b) (c__law_door b)) F__law_look.kp g__law_look (bn__law_look F__law_look) mono__law_look
  have c__law_lot : ∀ b : Addr, Cal P w K mg base (Zb b) 4 "_law_lot" (sp__law_lot b) := fun b => calD (ok__law_lot T F__law_lot (c__law_look b)) F__law_lot.kp g__law_lot (bn__law_lot F__law_lot) mono__law_lot
  have c__law_other : ∀ Z : Res, Cal P w K mg base Z 1 "_law_other" sp__law_other := fun Z => calD (ok__law_other T F__law_other) F__law_other.kp g__law_other (bn__law_other F__law_other) spV_mono
  have c__law_second : ∀ b : Addr, Cal P w K mg base (Zb b) 5 "_law_second" (sp__law_second b) := fun b => calD (ok__law_second T F__law_second (c__law_bale b) (c__law_lot b) (c__law_other _)) F__law_second.kp g__law_second (bn__law_second F__law_second) mono__law_second
  have c__law_app : ∀ b : Addr, Cal P w K mg base (Zb b) 6 "_law_app" (sp__law_app b) := fun b => calD (ok__law_app T F__law_app (c__law_bale b) (c__law_door b) (c__law_lot b) (c__law_second b)) F__law_app.kp g__law_app (bn__law_app F__law_app) mono__law_app
  have c__law_facts : ∀ Z : Res, Cal P w K mg base Z 1 "_law_facts" sp__law_facts := fun Z => calD (ok__law_facts T F__law_facts) F__law_facts.kp g__law_facts (bn__law_facts F__law_facts) spV_mono
  have c__law_can : ∀ Z : Res, Cal P w K mg base Z 1 "_law_can" sp__law_can := fun Z => calD (ok__law_can T F__law_can) F__law_can.kp g__law_can (bn__law_can F__law_can) spV_mono
  have c__law_inside : ∀ Z : Res, Cal P w K mg base Z 2 "_law_inside" sp__law_inside := fun Z => calD (ok__law_inside T F__law_inside (c__law_can _) (c__law_facts _)) F__law_inside.kp g__law_inside (bn__law_inside F__law_inside) spV_mono
  have c__law_spare : ∀ Z : Res, Cal P w K mg base Z 3 "_law_spare" sp__law_spare := fun Z => calD (ok__law_spare T F__law_spare (c__law_can _) (c__law_facts _) (c__law_inside _)) F__law_spare.kp g__law_spare (bn__law_spare F__law_spare) spV_mono
  have c__law_idle : ∀ Z : Res, Cal P w K mg base Z 2 "_law_idle" sp__law_idle := fun Z => calD (ok__law_idle T F__law_idle (c__law_can _) (c__law_facts _)) F__law_idle.kp g__law_idle (bn__law_idle F__law_idle) spV_mono
  have c__law_trimmed : ∀ Z : Res, Cal P w K mg base Z 4 "_law_trimmed" sp__law_trimmed := fun Z => calD (ok__law_trimmed T F__law_trimmed (c__law_idle _) (c__law_spare _)) F__law_trimmed.kp g__law_trimmed (bn__law_trimmed F__law_trimmed) spV_mono
  have c__law_unseen : ∀ Z : Res, Cal P w K mg base Z 2 "_law_unseen" sp__law_unseen := fun Z => calD (ok__law_unseen T F__law_unseen (c__law_can _) (c__law_facts _)) F__law_unseen.kp g__law_unseen (bn__law_unseen F__law_unseen) spV_mono
  have c__law_value : ∀ Z : Res, Cal P w K mg base Z 1 "_law_value" sp__law_value := fun Z => calD (ok__law_value T F__law_value) F__law_value.kp g__law_value (bn__law_value F__law_value) spV_mono
  have c__law_sees : ∀ Z : Res, Cal P w K mg base Z 2 "_law_sees" sp__law_sees := fun Z => calD (ok__law_sees T F__law_sees (c__law_value _)) F__law_sees.kp g__law_sees (bn__law_sees F__law_sees) spV_mono
  have c__law_sight : ∀ Z : Res, Cal P w K mg base Z 3 "_law_sight" sp__law_sight := fun Z => calD (ok__law_sight T F__law_sight (c__law_sees _)) F__law_sight.kp g__law_sight (bn__law_sight F__law_sight) spV_mono
  have c__law_same : ∀ Z : Res, Cal P w K mg base Z 14 "_law_same" sp__law_same := fun Z => (cal_same T F__law_same g__law_same 12).up (by decide)
  have c__law_is_term : ∀ Z : Res, Cal P w K mg base Z 1 "_law_is_term" sp__law_is_term := fun Z => calD (ok__law_is_term T F__law_is_term) F__law_is_term.kp g__law_is_term (bn__law_is_term F__law_is_term) spV_mono
  have c__law_lot_same : ∀ Z : Res, Cal P w K mg base Z 2 "_law_lot_same" sp__law_lot_same := fun Z => calD (ok__law_lot_same T F__law_lot_same (c__law_is_term _)) F__law_lot_same.kp g__law_lot_same (bn__law_lot_same F__law_lot_same) spV_mono
  have c__law_windows_right : ∀ Z : Res, Cal P w K mg base Z 15 "_law_windows_right" sp__law_windows_right := fun Z => calD (ok__law_windows_right T F__law_windows_right (c__law_facts _) (c__law_idle _) (c__law_lot_same _) (c__law_same _) (c__law_spare _) (c_idle_windows _) (c_seen_lots _) (c_sizes _) (c_spare_lots _) (c_trimmed _)) F__law_windows_right.kp g__law_windows_right (bn__law_windows_right F__law_windows_right) spV_mono
  have c__law_asks_right : ∀ Z : Res, Cal P w K mg base Z 15 "_law_asks_right" sp__law_asks_right := fun Z => calD (ok__law_asks_right T F__law_asks_right (c__law_same _) (c__law_unseen _) (c_tells_nothing _)) F__law_asks_right.kp g__law_asks_right (bn__law_asks_right F__law_asks_right) spV_mono
  have c__law_store : ∀ b : Addr, Cal P w K mg base (Zb b) 2 "_law_store" (sp__law_store b) := fun b => calD (ok__law_store T F__law_store (c__law_bale b)) F__law_store.kp g__law_store (bn__law_store F__law_store) mono__law_store
  have c__law_sights_right : ∀ b : Addr, Cal P w K mg base (Zb b) 15 "_law_sights_right" (sp__law_sights_right b) := fun b => calD (ok__law_sights_right T F__law_sights_right (c__law_bale b) (c__law_same _) (c__law_sight _) (c__law_store b) (c_are_alike _) (c_sight_of _)) F__law_sights_right.kp g__law_sights_right (bn__law_sights_right F__law_sights_right) mono__law_sights_right
  have c__law_by_hand : ∀ Z : Res, Cal P w K mg base Z 15 "_law_by_hand" sp__law_by_hand := fun Z => calD (ok__law_by_hand T F__law_by_hand (c__law_same _) (c_are_alike _) (c_idle_windows _) (c_sight_of _) (c_sizes _) (c_spare_lots _) (c_tells_nothing _) (c_trimmed _)) F__law_by_hand.kp g__law_by_hand (bn__law_by_hand F__law_by_hand) mono__law_by_hand
  exact ok_law T F_law F__law_barn g__law_barn c__law_by_hand c__law_app c__law_trimmed c__law_windows_right c__law_asks_right c__law_sights_right
end K85

open PySem PySem.W PySem.Calls PyProof.Rows
set_option maxRecDepth 100000 in
set_option maxHeartbeats 0 in
theorem PySem.Challenge.cw_nothingbeyond_k85_whole_trimmed_holds : PySem.Challenge.rw_nothingbeyond_k85_whole_trimmed.Holds := by
  w_on; o_law
  refine HandSHeadRun.head_any (r := OpenLaw.row PySem.Challenge.rw_nothingbeyond_k85_whole_trimmed) (q := K85.qv) (H := K85.hk) (ob := K85.ob) (M := 4000) (loose := K85.names) (d := HandSHeadRun.topDef (OpenLaw.row PySem.Challenge.rw_nothingbeyond_k85_whole_trimmed).prog 84) (kwd := []) K85.ob_eq
    (by kernel_rfl) (fun s => by kernel_rfl) K85.run (by kernel_rfl) (by kernel_rfl) (by kernel_rfl) (by rfl) (by first | assumption | decide +kernel) (by decide +kernel) ⟨rfl, rfl, rfl, rfl, rfl, by decide +kernel⟩ ?hw ?hc
  case hw => w_witness2
  case hc =>
    refine L2.walk_ofE (l := PySem.Challenge.rw_nothingbeyond_k85_whole_trimmed) (n := 63) (k := 17) (x := "script") (CX := L2.CX0) rfl (by decide) (by kernel_rfl) ⟨rfl, by decide, by decide⟩ ?F (fun _ _ _ _ z => z)
    intro w mg fa h Y G hmg0
    obtain ⟨K, KX, c⟩ := Y
    have hmg : mg ("law" : PySem.Str) = some (.ref fa) := by
      have e : (HandSHeadRun.topDef (OpenLaw.row PySem.Challenge.rw_nothingbeyond_k85_whole_trimmed).prog 84).name = ("law" : PySem.Str) := by kernel_rfl
      rw [← e]
      exact hmg0
    obtain ⟨fd, hb, hF⟩ := K85.facts (P := (PySem.Challenge.rw_nothingbeyond_k85_whole_trimmed).prog) (w := w) KX G hmg c
    exact ⟨K, fd, K85.spLaw K, KX, hb, fun H a ns hl _ hS => ⟨a, ns, rfl, hS, hl, fun _ => rfl⟩, hF⟩

