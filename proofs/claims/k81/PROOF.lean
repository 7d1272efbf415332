import PyProof.Rows.All
import Wide.All
import OpenK.AllK
import Wide.FinOn
import KE.KStateDown
import Lean
import HandS.Base
import HandS.Call
import HandS.Ends
import HandS.More
import HandS.Words
import HandS.WordsExc
import HandS.Defaults
import HandS.Head0
import HandS.Head1
import HandS.Head2
import HandS.HeadEnd
import HandS.HeadHook1
import HandS.HeadHook2
import HandS.Codes
import HandS.ExcInit
import HandS.ExcField
import KE.KIsAll
import HandS.ForMost
import HandS.Evl
import HandS.Deep
import HandS.IsInst
import HandS.TupAny
import HandS.TupMul
import HandS.TupLe
import HandS.TupSets
import HandS.SortInts
import HandS.Wide
import HandS.Style
import KE.SortData
import KE.KSortTup
import PyProof.TupleOfSeq
import PyProof.Rows.ReprR
import PyProof.ReprLen
import HandS.Conv
import HandS.SetFor
import HandS.Strs
import HandS.Star
import HandS.SlotsOwn
import HandS.IterNext
import KE.KOpsOwn
import KE.KOwnIter
import HandS.OwnIter
import HandS.Exc
import HandS.EndBits
import HandS.ExcOwn
import PySem.Challenge.RW_closereckoned_k81_whole_sides_beside_bet
set_option Elab.async false
set_option linter.all false
set_option maxRecDepth 100000
set_option
        maxHeartbeats 4000000
/-! ## Hd -/
namespace Hd
open PySem PySem.Spec
        PyProof.Rows L2
def top (i : Nat) : Stmt := PySem.Challenge.pw_closereckoned_k81_whole_sides_beside_bet.main.body.getD i (.Pass ⟨0, 0, 0, 0⟩)
abbrev s_NotUsable___init__ : Stmt := (inClass (top 4) 0)
def d_NotUsable___init__ : He.DefD := ⟨("NotUsable", some "__init__"), "__init__", "NotUsable.__init__", defArgs s_NotUsable___init__, defBody s_NotUsable___init__, defScope s_NotUsable___init__, [], []⟩
abbrev s_a_want : Stmt := (top 6)
def d_a_want : He.DefD := ⟨("a_want", none), "a_want", "a_want", defArgs s_a_want, defBody s_a_want, defScope s_a_want, [], []⟩
abbrev s_integer_fits : Stmt := (top 7)
def d_integer_fits : He.DefD := ⟨("integer_fits", none), "integer_fits", "integer_fits", defArgs s_integer_fits, defBody s_integer_fits, defScope s_integer_fits, [], []⟩
abbrev s_number_fits : Stmt := (top 8)
def d_number_fits : He.DefD := ⟨("number_fits", none), "number_fits", "number_fits", defArgs s_number_fits, defBody s_number_fits, defScope s_number_fits, [], []⟩
abbrev s_many_fits : Stmt := (top 9)
def d_many_fits : He.DefD := ⟨("many_fits", none), "many_fits", "many_fits", defArgs s_many_fits, defBody s_many_fits, defScope s_many_fits, [], []⟩
abbrev s_sizes_fit : Stmt := (top 10)
def d_sizes_fit : He.DefD := ⟨("sizes_fit", none), "sizes_fit", "sizes_fit", defArgs s_sizes_fit, defBody s_sizes_fit, defScope s_sizes_fit, [], []⟩
abbrev s_house_fits : Stmt := (top 11)
def d_house_fits : He.DefD := ⟨("house_fits", none), "house_fits", "house_fits", defArgs s_house_fits, defBody s_house_fits, defScope s_house_fits, [], []⟩
abbrev s_lot_fits : Stmt := (top 12)
def d_lot_fits : He.DefD := ⟨("lot_fits", none), "lot_fits", "lot_fits", defArgs s_lot_fits, defBody s_lot_fits, defScope s_lot_fits, [], []⟩
abbrev s_is_lots : Stmt := (top 13)
def d_is_lots : He.DefD := ⟨("is_lots", none), "is_lots", "is_lots", defArgs s_is_lots, defBody s_is_lots, defScope s_is_lots, [], []⟩
abbrev s_fears_fit : Stmt := (top 14)
def d_fears_fit : He.DefD := ⟨("fears_fit", none), "fears_fit", "fears_fit", defArgs s_fears_fit, defBody s_fears_fit, defScope s_fears_fit, [], []⟩
abbrev s_ground_fits : Stmt := (top 15)
def d_ground_fits : He.DefD := ⟨("ground_fits", none), "ground_fits", "ground_fits", defArgs s_ground_fits, defBody s_ground_fits, defScope s_ground_fits, [], []⟩
abbrev s_lot_within : Stmt := (top 16)
def d_lot_within : He.DefD := ⟨("lot_within", none), "lot_within", "lot_within", defArgs s_lot_within, defBody s_lot_within, defScope s_lot_within, [], []⟩
abbrev s_others_in : Stmt := (top 17)
def d_others_in : He.DefD := ⟨("others_in", none), "others_in", "others_in", defArgs s_others_in, defBody s_others_in, defScope s_others_in, [], []⟩
abbrev s_lots_in : Stmt := (top 18)
def d_lots_in : He.DefD := ⟨("lots_in", none), "lots_in", "lots_in", defArgs s_lots_in, defBody s_lots_in, defScope s_lots_in, [], []⟩
abbrev s_greatest_in : Stmt := (top 19)
def d_greatest_in : He.DefD := ⟨("greatest_in", none), "greatest_in", "greatest_in", defArgs s_greatest_in, defBody s_greatest_in, defScope s_greatest_in, [], []⟩
abbrev s_feared_in : Stmt := (top 20)
def d_feared_in : He.DefD := ⟨("feared_in", none), "feared_in", "feared_in", defArgs s_feared_in, defBody s_feared_in, defScope s_feared_in, [], []⟩
abbrev s_blind_in : Stmt := (top 21)
def d_blind_in : He.DefD := ⟨("blind_in", none), "blind_in", "blind_in", defArgs s_blind_in, defBody s_blind_in, defScope s_blind_in, [], []⟩
abbrev s_wire_fits : Stmt := (top 23)
def d_wire_fits : He.DefD := ⟨("wire_fits", none), "wire_fits", "wire_fits", defArgs s_wire_fits, defBody s_wire_fits, defScope s_wire_fits, [], []⟩
abbrev s_net_fits : Stmt := (top 24)
def d_net_fits : He.DefD := ⟨("net_fits", none), "net_fits", "net_fits", defArgs s_net_fits, defBody s_net_fits, defScope s_net_fits, [], []⟩
abbrev s_two_fit : Stmt := (top 25)
def d_two_fit : He.DefD := ⟨("two_fit", none), "two_fit", "two_fit", defArgs s_two_fit, defBody s_two_fit, defScope s_two_fit, [], []⟩
abbrev s_wire_between : Stmt := (top 26)
def d_wire_between : He.DefD := ⟨("wire_between", none), "wire_between", "wire_between", defArgs s_wire_between, defBody s_wire_between, defScope s_wire_between, [], []⟩
abbrev s_bare_wired : Stmt := (top 27)
def d_bare_wired : He.DefD := ⟨("bare_wired", none), "bare_wired", "bare_wired", defArgs s_bare_wired, defBody s_bare_wired, defScope s_bare_wired, [], []⟩
abbrev s_bare_sides : Stmt := (top 28)
def d_bare_sides : He.DefD := ⟨("bare_sides", none), "bare_sides", "bare_sides", defArgs s_bare_sides, defBody s_bare_sides, defScope s_bare_sides, [], []⟩
abbrev s_bare_divides : Stmt := (top 29)
def d_bare_divides : He.DefD := ⟨("bare_divides", none), "bare_divides", "bare_divides", defArgs s_bare_divides, defBody s_bare_divides, defScope s_bare_divides, [], []⟩
abbrev s_bare_way : Stmt := (top 30)
def d_bare_way : He.DefD := ⟨("bare_way", none), "bare_way", "bare_way", defArgs s_bare_way, defBody s_bare_way, defScope s_bare_way, [], []⟩
abbrev s_bare_between : Stmt := (top 31)
def d_bare_between : He.DefD := ⟨("bare_between", none), "bare_between", "bare_between", defArgs s_bare_between, defBody s_bare_between, defScope s_bare_between, [], []⟩
abbrev s_between_lots : Stmt := (top 33)
def d_between_lots : He.DefD := ⟨("between_lots", none), "between_lots", "between_lots", defArgs s_between_lots, defBody s_between_lots, defScope s_between_lots, [], []⟩
abbrev s_can_send : Stmt := (top 34)
def d_can_send : He.DefD := ⟨("can_send", none), "can_send", "can_send", defArgs s_can_send, defBody s_can_send, defScope s_can_send, [], []⟩
abbrev s_secret_paper : Stmt := (top 35)
def d_secret_paper : He.DefD := ⟨("secret_paper", none), "secret_paper", "secret_paper", defArgs s_secret_paper, defBody s_secret_paper, defScope s_secret_paper, [], []⟩
abbrev s_left_in : Stmt := (top 37)
def d_left_in : He.DefD := ⟨("left_in", none), "left_in", "left_in", defArgs s_left_in, defBody s_left_in, defScope s_left_in, [], []⟩
abbrev s_left_out : Stmt := (top 38)
def d_left_out : He.DefD := ⟨("left_out", none), "left_out", "left_out", defArgs s_left_out, defBody s_left_out, defScope s_left_out, [], []⟩
abbrev s_feared_too : Stmt := (top 39)
def d_feared_too : He.DefD := ⟨("feared_too", none), "feared_too", "feared_too", defArgs s_feared_too, defBody s_feared_too, defScope s_feared_too, [], []⟩
abbrev s_calmed : Stmt := (top 40)
def d_calmed : He.DefD := ⟨("calmed", none), "calmed", "calmed", defArgs s_calmed, defBody s_calmed, defScope s_calmed, [], []⟩
abbrev s_mesh_of : Stmt := (top 42)
def d_mesh_of : He.DefD := ⟨("mesh_of", none), "mesh_of", "mesh_of", defArgs s_mesh_of, defBody s_mesh_of, defScope s_mesh_of, [], []⟩
abbrev s_is_way : Stmt := (top 43)
def d_is_way : He.DefD := ⟨("is_way", none), "is_way", "is_way", defArgs s_is_way, defBody s_is_way, defScope s_is_way, [], []⟩
abbrev s_wired_to : Stmt := (top 44)
def d_wired_to : He.DefD := ⟨("wired_to", none), "wired_to", "wired_to", defArgs s_wired_to, defBody s_wired_to, defScope s_wired_to, [], []⟩
abbrev s_feared_lots : Stmt := (top 46)
def d_feared_lots : He.DefD := ⟨("feared_lots", none), "feared_lots", "feared_lots", defArgs s_feared_lots, defBody s_feared_lots, defScope s_feared_lots, [], []⟩
abbrev s_sides_of : Stmt := (top 48)
def d_sides_of : He.DefD := ⟨("sides_of", none), "sides_of", "sides_of", defArgs s_sides_of, defBody s_sides_of, defScope s_sides_of, [], []⟩
abbrev s_divides : Stmt := (top 49)
def d_divides : He.DefD := ⟨("divides", none), "divides", "divides", defArgs s_divides, defBody s_divides, defScope s_divides, [], []⟩
abbrev s_dividing_lots : Stmt := (top 50)
def d_dividing_lots : He.DefD := ⟨("dividing_lots", none), "dividing_lots", "dividing_lots", defArgs s_dividing_lots, defBody s_dividing_lots, defScope s_dividing_lots, [], []⟩
abbrev s_is_sturdy : Stmt := (top 51)
def d_is_sturdy : He.DefD := ⟨("is_sturdy", none), "is_sturdy", "is_sturdy", defArgs s_is_sturdy, defBody s_is_sturdy, defScope s_is_sturdy, [], []⟩
abbrev s_needed_wires : Stmt := (top 52)
def d_needed_wires : He.DefD := ⟨("needed_wires", none), "needed_wires", "needed_wires", defArgs s_needed_wires, defBody s_needed_wires, defScope s_needed_wires, [], []⟩
abbrev s_way_past : Stmt := (top 54)
def d_way_past : He.DefD := ⟨("way_past", none), "way_past", "way_past", defArgs s_way_past, defBody s_way_past, defScope s_way_past, [], []⟩
abbrev s_pairs_fit : Stmt := (top 56)
def d_pairs_fit : He.DefD := ⟨("pairs_fit", none), "pairs_fit", "pairs_fit", defArgs s_pairs_fit, defBody s_pairs_fit, defScope s_pairs_fit, [], []⟩
abbrev s_net_by : Stmt := (top 57)
def d_net_by : He.DefD := ⟨("net_by", none), "net_by", "net_by", defArgs s_net_by, defBody s_net_by, defScope s_net_by, [], []⟩
abbrev s_Net___init__ : Stmt := (inClass (top 58) 0)
def d_Net___init__ : He.DefD := ⟨("Net", some "__init__"), "__init__", "Net.__init__", defArgs s_Net___init__, defBody s_Net___init__, defScope s_Net___init__, [], []⟩
abbrev s_Net_past : Stmt := (inClass (top 58) 2)
def d_Net_past : He.DefD := ⟨("Net", some "past"), "past", "Net.past", defArgs s_Net_past, defBody s_Net_past, defScope s_Net_past, [], []⟩
abbrev s_Net___call__ : Stmt := (inClass (top 58) 3)
def d_Net___call__ : He.DefD := ⟨("Net", some "__call__"), "__call__", "Net.__call__", defArgs s_Net___call__, defBody s_Net___call__, defScope s_Net___call__, [], []⟩
abbrev s_Net___getitem__ : Stmt := (inClass (top 58) 4)
def d_Net___getitem__ : He.DefD := ⟨("Net", some "__getitem__"), "__getitem__", "Net.__getitem__", defArgs s_Net___getitem__, defBody s_Net___getitem__, defScope s_Net___getitem__, [], []⟩
abbrev s_Net___add__ : Stmt := (inClass (top 58) 5)
def d_Net___add__ : He.DefD := ⟨("Net", some "__add__"), "__add__", "Net.__add__", defArgs s_Net___add__, defBody s_Net___add__, defScope s_Net___add__, [], []⟩
abbrev s_Net___invert__ : Stmt := (inClass (top 58) 6)
def d_Net___invert__ : He.DefD := ⟨("Net", some "__invert__"), "__invert__", "Net.__invert__", defArgs s_Net___invert__, defBody s_Net___invert__, defScope s_Net___invert__, [], []⟩
abbrev s_Net___len__ : Stmt := (inClass (top 58) 8)
def d_Net___len__ : He.DefD := ⟨("Net", some "__len__"), "__len__", "Net.__len__", defArgs s_Net___len__, defBody s_Net___len__, defScope s_Net___len__, [], []⟩
abbrev s_Net___iter__ : Stmt := (inClass (top 58) 9)
def d_Net___iter__ : He.DefD := ⟨("Net", some "__iter__"), "__iter__", "Net.__iter__", defArgs s_Net___iter__, defBody s_Net___iter__, defScope s_Net___iter__, [], []⟩
abbrev s_Net___eq__ : Stmt := (inClass (top 58) 11)
def d_Net___eq__ : He.DefD := ⟨("Net", some "__eq__"), "__eq__", "Net.__eq__", defArgs s_Net___eq__, defBody s_Net___eq__, defScope s_Net___eq__, [], []⟩
abbrev s__law_well : Stmt := (top 60)
def d__law_well : He.DefD := ⟨("_law_well", none), "_law_well", "_law_well", defArgs s__law_well, defBody s__law_well, defScope s__law_well, [], []⟩
abbrev s__law_draw : Stmt := (top 61)
def d__law_draw : He.DefD := ⟨("_law_draw", none), "_law_draw", "_law_draw", defArgs s__law_draw, defBody s__law_draw, defScope s__law_draw, [], []⟩
abbrev s__law_within : Stmt := (top 62)
def d__law_within : He.DefD := ⟨("_law_within", none), "_law_within", "_law_within", defArgs s__law_within, defBody s__law_within, defScope s__law_within, [], []⟩
abbrev s__law_others : Stmt := (top 63)
def d__law_others : He.DefD := ⟨("_law_others", none), "_law_others", "_law_others", defArgs s__law_others, defBody s__law_others, defScope s__law_others, [], []⟩
abbrev s__law_lots : Stmt := (top 64)
def d__law_lots : He.DefD := ⟨("_law_lots", none), "_law_lots", "_law_lots", defArgs s__law_lots, defBody s__law_lots, defScope s__law_lots, [], []⟩
abbrev s__law_greatest : Stmt := (top 65)
def d__law_greatest : He.DefD := ⟨("_law_greatest", none), "_law_greatest", "_law_greatest", defArgs s__law_greatest, defBody s__law_greatest, defScope s__law_greatest, [], []⟩
abbrev s__law_feared : Stmt := (top 66)
def d__law_feared : He.DefD := ⟨("_law_feared", none), "_law_feared", "_law_feared", defArgs s__law_feared, defBody s__law_feared, defScope s__law_feared, [], []⟩
abbrev s__law_mesh : Stmt := (top 67)
def d__law_mesh : He.DefD := ⟨("_law_mesh", none), "_law_mesh", "_law_mesh", defArgs s__law_mesh, defBody s__law_mesh, defScope s__law_mesh, [], []⟩
abbrev s__law_joined : Stmt := (top 68)
def d__law_joined : He.DefD := ⟨("_law_joined", none), "_law_joined", "_law_joined", defArgs s__law_joined, defBody s__law_joined, defScope s__law_joined, [], []⟩
abbrev s__law_divided : Stmt := (top 69)
def d__law_divided : He.DefD := ⟨("_law_divided", none), "_law_divided", "_law_divided", defArgs s__law_divided, defBody s__law_divided, defScope s__law_divided, [], []⟩
abbrev s__law_long : Stmt := (top 70)
def d__law_long : He.DefD := ⟨("_law_long", none), "_law_long", "_law_long", defArgs s__law_long, defBody s__law_long, defScope s__law_long, [], []⟩
abbrev s__law_between : Stmt := (top 71)
def d__law_between : He.DefD := ⟨("_law_between", none), "_law_between", "_law_between", defArgs s__law_between, defBody s__law_between, defScope s__law_between, [], []⟩
abbrev s__law_is_house : Stmt := (top 72)
def d__law_is_house : He.DefD := ⟨("_law_is_house", none), "_law_is_house", "_law_is_house", defArgs s__law_is_house, defBody s__law_is_house, defScope s__law_is_house, [], []⟩
abbrev s__law_way_fits : Stmt := (top 73)
def d__law_way_fits : He.DefD := ⟨("_law_way_fits", none), "_law_way_fits", "_law_way_fits", defArgs s__law_way_fits, defBody s__law_way_fits, defScope s__law_way_fits, [], []⟩
abbrev s__law_fears : Stmt := (top 74)
def d__law_fears : He.DefD := ⟨("_law_fears", none), "_law_fears", "_law_fears", defArgs s__law_fears, defBody s__law_fears, defScope s__law_fears, [], []⟩
abbrev s__law_net : Stmt := (top 75)
def d__law_net : He.DefD := ⟨("_law_net", none), "_law_net", "_law_net", defArgs s__law_net, defBody s__law_net, defScope s__law_net, [], []⟩
abbrev s__law_object : Stmt := (top 76)
def d__law_object : He.DefD := ⟨("_law_object", none), "_law_object", "_law_object", defArgs s__law_object, defBody s__law_object, defScope s__law_object, [], []⟩
abbrev s__law_anew : Stmt := (top 77)
def d__law_anew : He.DefD := ⟨("_law_anew", none), "_law_anew", "_law_anew", defArgs s__law_anew, defBody s__law_anew, defScope s__law_anew, [], []⟩
abbrev s__law_left : Stmt := (top 78)
def d__law_left : He.DefD := ⟨("_law_left", none), "_law_left", "_law_left", defArgs s__law_left, defBody s__law_left, defScope s__law_left, [], []⟩
abbrev s__law_pair : Stmt := (top 79)
def d__law_pair : He.DefD := ⟨("_law_pair", none), "_law_pair", "_law_pair", defArgs s__law_pair, defBody s__law_pair, defScope s__law_pair, [], []⟩
abbrev s__law_drawn_pair : Stmt := (top 80)
def d__law_drawn_pair : He.DefD := ⟨("_law_drawn_pair", none), "_law_drawn_pair", "_law_drawn_pair", defArgs s__law_drawn_pair, defBody s__law_drawn_pair, defScope s__law_drawn_pair, [], []⟩
abbrev s__law_past : Stmt := (top 81)
def d__law_past : He.DefD := ⟨("_law_past", none), "_law_past", "_law_past", defArgs s__law_past, defBody s__law_past, defScope s__law_past, [], []⟩
abbrev s__law_sides : Stmt := (top 82)
def d__law_sides : He.DefD := ⟨("_law_sides", none), "_law_sides", "_law_sides", defArgs s__law_sides, defBody s__law_sides, defScope s__law_sides, [], []⟩
abbrev s__law_needed : Stmt := (top 83)
def d__law_needed : He.DefD := ⟨("_law_needed", none), "_law_needed", "_law_needed", defArgs s__law_needed, defBody s__law_needed, defScope s__law_needed, [], []⟩
abbrev s__law_grounds : Stmt := (top 84)
def d__law_grounds : He.DefD := ⟨("_law_grounds", none), "_law_grounds", "_law_grounds", defArgs s__law_grounds, defBody s__law_grounds, defScope s__law_grounds, [], []⟩
abbrev s__law_thin : Stmt := (top 85)
def d__law_thin : He.DefD := ⟨("_law_thin", none), "_law_thin", "_law_thin", defArgs s__law_thin, defBody s__law_thin, defScope s__law_thin, [], []⟩
abbrev s_law : Stmt := (top 86)
def d_law : He.DefD := ⟨("law", none), "law", "law", defArgs s_law, defBody s_law, defScope s_law, [], []⟩
def fn : List He.DefD := [d_NotUsable___init__, d_a_want, d_integer_fits, d_number_fits, d_many_fits, d_sizes_fit, d_house_fits, d_lot_fits, d_is_lots, d_fears_fit, d_ground_fits, d_lot_within, d_others_in, d_lots_in, d_greatest_in, d_feared_in, d_blind_in, d_wire_fits, d_net_fits, d_two_fit, d_wire_between, d_bare_wired, d_bare_sides, d_bare_divides, d_bare_way, d_bare_between, d_between_lots, d_can_send, d_secret_paper, d_left_in, d_left_out, d_feared_too, d_calmed, d_mesh_of, d_is_way, d_wired_to, d_feared_lots, d_sides_of, d_divides, d_dividing_lots, d_is_sturdy, d_needed_wires, d_way_past, d_pairs_fit, d_net_by, d_Net___init__, d_Net_past, d_Net___call__, d_Net___getitem__, d_Net___add__, d_Net___invert__, d_Net___len__, d_Net___iter__, d_Net___eq__, d__law_well, d__law_draw, d__law_within, d__law_others, d__law_lots, d__law_greatest, d__law_feared, d__law_mesh, d__law_joined, d__law_divided, d__law_long, d__law_between, d__law_is_house, d__law_way_fits, d__law_fears, d__law_net, d__law_object, d__law_anew, d__law_left, d__law_pair, d__law_drawn_pair, d__law_past, d__law_sides, d__law_needed, d__law_grounds, d__law_thin, d_law]
def fa : List He.Fa := [.glo "ReckonError", .glo "GroundError", .glo "NotUsable", .glo "a_want", .glo "integer_fits", .glo "number_fits", .glo "many_fits", .glo "sizes_fit", .glo "house_fits", .glo "lot_fits", .glo "is_lots", .glo "fears_fit", .glo "ground_fits", .glo "lot_within", .glo "others_in", .glo "lots_in", .glo "greatest_in", .glo "feared_in", .glo "blind_in", .glo "wire_fits", .glo "net_fits", .glo "two_fit", .glo "wire_between", .glo "bare_wired", .glo "bare_sides", .glo "bare_divides", .glo "bare_way", .glo "bare_between", .glo "between_lots", .glo "can_send", .glo "secret_paper", .glo "left_in", .glo "left_out", .glo "feared_too", .glo "calmed", .glo "mesh_of", .glo "is_way", .glo "wired_to", .glo "feared_lots", .glo "sides_of", .glo "divides", .glo "dividing_lots", .glo "is_sturdy", .glo "needed_wires", .glo "way_past", .glo "pairs_fit", .glo "net_by", .glo "Net", .glo "_law_well", .glo "_law_draw", .glo "_law_within", .glo "_law_others", .glo "_law_lots", .glo "_law_greatest", .glo "_law_feared", .glo "_law_mesh", .glo "_law_joined", .glo "_law_divided", .glo "_law_long", .glo "_law_between", .glo "_law_is_house", .glo "_law_way_fits", .glo "_law_fears", .glo "_law_net", .glo "_law_object", .glo "_law_anew", .glo "_law_left", .glo "_law_pair", .glo "_law_drawn_pair", .glo "_law_past", .glo "_law_sides", .glo "_law_needed", .glo "_law_grounds", .glo "_law_thin", .glo "law", .free "len", .free "tuple", .free "list", .free "int", .free "bool", .free "abs", .free "all", .free "any", .free "min", .free "max", .free "sorted", .free "repr", .free "isinstance", .free "set", .free "range", .free "iter", .free "ValueError", .cls "Net", .mkr "Net", .noat "Net" "_houses", .noat "Net" "_wires", .meth "Net" "past", .meth "Net" "__call__", .meth "Net" "__getitem__", .meth "Net" "__add__", .meth "Net" "__invert__", .meth "Net" "__len__", .meth "Net" "__iter__", .meth "Net" "__eq__", .meth "NotUsable" "__init__", .noat "NotUsable" "word", .noat "NotUsable" "at", .exm "NotUsable" "NotUsable" true]
/-- what the text says of the classes, besides -/
def oexB (K : PySem.W.Frag) (C : Addr) : Bool := (match K.lookup C with
  | some ⟨.type t, _, .cls cd, sl⟩ => (match cd.mro, sl.toList with
    | .ref C' :: bm, [_, _, _, _, some (.builtin n), _] => decide (t = "type") && (decide (C' = C) && (decide (n = "ValueError.__new__") && (!cd.hasDel && (cd.hasDict && PySem.HandSPX.refsVE bm))))
    | _, _ => false)
  | _ => false) && (He.eqO (PySem.W.findIn K (.ref C) "__setattr__") (some (some (.builtin "object.__setattr__"))) && (decide (PySem.W.subIn K (.ref C) (.type "BaseException") = some true) && (decide (PySem.W.typeIn K (.ref C) = some (.type "type")) && PySem.W.keepIn K (.ref C))))
def netB (K : PySem.W.Frag) (C : Addr) : Bool := PySem.W.fnIn K (He.ma K C "__call__") && (PySem.W.fnIn K (He.ma K C "__getitem__") && (PySem.W.noSeq K C && (PySem.W.selfFirst K C && (PySem.W.notFirst K C (.type "tuple") && (PySem.W.notFirst K C (.ref C) &&
  (decide (PySem.W.kitOne K (.type "tuple") (.ref C) = some false) && (He.eqO (PySem.W.findIn K (.ref C) "__class__") (some (some (.builtin "object.__class__"))) && (He.eqO (PySem.W.specialIn K (.builtin "object.__class__") "__get__") (some (some (.builtin "getset_descriptor.__get__"))) &&
  (decide (PySem.W.takesIn K (.builtin "object.__class__") = some true) && (decide (PySem.W.mroIn K C (.type "object") = some true) && decide (PySem.W.kitOne K (.ref C) (.ref C) = some true)))))))))))
def exB (K : PySem.W.Frag) : Bool := netB K (He.ga K "Net") && (oexB K (He.ga K "NotUsable") && xfB K (He.ga K "NotUsable"))
theorem oexB_ok {K : PySem.W.Frag} {C : Addr} (h : oexB K C = true) : OexC K C := by
  obtain ⟨h1, h2⟩ := He.ba h
  obtain ⟨h3, h4⟩ := He.ba h2
  obtain ⟨h5, h6⟩ := He.ba h4
  obtain ⟨h7, h8⟩ := He.ba h6
  refine ⟨?_, He.eqO_ok h3, of_decide_eq_true h5, of_decide_eq_true h7, h8⟩
  cases q : K.lookup C with
  | none =>
    rw [q] at h1
    cases h1
  | some o =>
    rw [q] at h1
    obtain ⟨oc, od, dt, osl⟩ := o
    cases oc with
    | type t =>
      cases dt with
      | cls cd =>
        dsimp only at h1
        split at h1
        · rename_i C' bm k0 k1 k2 k3 n k5 e1 e2
          obtain ⟨nm, bs, mro, ns, qn,
                  hd, sn, sub, ab, col, del⟩ := cd
          obtain ⟨sl⟩ := osl
          obtain ⟨a1, h1⟩ := He.ba h1
          obtain ⟨a2, h1⟩ := He.ba h1
          obtain ⟨a3, h1⟩ := He.ba h1
          obtain ⟨a4, h1⟩ := He.ba h1
          obtain ⟨a5, a6⟩ := He.ba h1
          have z1 := of_decide_eq_true a1
          have z2 := of_decide_eq_true a2
          have z3 := of_decide_eq_true a3
          cases del with
          | true => cases a4
          | false =>
            cases hd with
            | false => cases a5
            | true =>
              subst z1 z2 z3
              simp only at e1 e2
              subst e1 e2
              exact ⟨nm, qn, ns, bs, bm, sn, sub, ab, col, od, k0, k1, k2, k3, k5, rfl, a6⟩
        · cases h1
      | _ => cases h1
    | _ => cases dt <;> cases h1
structure Tx (K : PySem.W.Frag) (mg : Str → Option Value) : Prop where
  ex : ∃ h : Heap, K.In h ∧ h.Ns mainGlobals mg ∧ He.SaysD fa fn K ∧ exB K = true
section
variable {K : PySem.W.Frag} {mg : Str → Option Value}
theorem Tx.glo (T : Tx K mg) (i : Nat) {x : Str} (h : fa[i]? = some (.glo x)) : mg x = some (.ref (He.ga K x)) := by
  obtain ⟨hp, X, G, c, _⟩ := T.ex
  exact He.glo_ok X G (c.fact i h)
theorem Tx.free (T : Tx K mg) (i : Nat) {x : Str} (h : fa[i]? = some (.free x)) : mg x = none := by
  obtain ⟨hp, X, G, c, _⟩ := T.ex
  exact He.free_ok X G (c.fact i h)
theorem Tx.fact (T : Tx K mg) (i : Nat) {f : He.Fa} (h : fa[i]? = some f) : f.ok K = true := by
  obtain ⟨hp, X, G, c, _⟩ := T.ex
  exact c.fact i h
theorem Tx.dfn (T : Tx K mg) (i : Nat) {d : He.DefD} (h : fn[i]? = some d) : ∃ fd, FunD K d.name d.qual d.params d.body d.scope (d.dvs K) (d.kws K) (He.fAd K d.at_) fd := by
  obtain ⟨hp, X, G, c, _⟩ := T.ex
  exact c.def_ i h
theorem Tx.exb (T : Tx K mg) : exB K = true := by
  obtain ⟨hp, X, G, c, e⟩ := T.ex
  exact e
theorem Tx.oex (T : Tx K mg) : OexC K (He.ga K "NotUsable") := oexB_ok (He.ba (He.ba T.exb).2).1
theorem Tx.xf (T : Tx K mg) : XfC K (He.ga K "NotUsable") := xfB_ok (He.ba (He.ba T.exb).2).2
theorem Tx.net (T : Tx K mg) : netB K (He.ga K "Net") = true := (He.ba T.exb).1
theorem Tx.g_ReckonError (T : Tx K mg) : mg "ReckonError" = some (.ref (He.ga K "ReckonError")) := T.glo 0 rfl
theorem Tx.g_GroundError (T : Tx K mg) : mg "GroundError" = some (.ref (He.ga K "GroundError")) := T.glo 1 rfl
theorem Tx.g_NotUsable (T : Tx K mg) : mg "NotUsable" = some (.ref (He.ga K "NotUsable")) := T.glo 2 rfl
theorem Tx.g_a_want (T : Tx K mg) : mg "a_want" = some (.ref (He.ga K "a_want")) := T.glo 3 rfl
theorem Tx.g_integer_fits (T : Tx K mg) : mg "integer_fits" = some (.ref (He.ga K "integer_fits")) := T.glo 4 rfl
theorem Tx.g_number_fits (T : Tx K mg) : mg "number_fits" = some (.ref (He.ga K "number_fits")) := T.glo 5 rfl
theorem Tx.g_many_fits (T : Tx K mg) : mg "many_fits" = some (.ref (He.ga K "many_fits")) := T.glo 6 rfl
theorem Tx.g_sizes_fit (T : Tx K mg) : mg "sizes_fit" = some (.ref (He.ga K "sizes_fit")) := T.glo 7 rfl
theorem Tx.g_house_fits (T : Tx K mg) : mg "house_fits" = some (.ref (He.ga K "house_fits")) := T.glo 8 rfl
theorem Tx.g_lot_fits (T : Tx K mg) : mg "lot_fits" = some (.ref (He.ga K "lot_fits")) := T.glo 9 rfl
theorem Tx.g_is_lots (T : Tx K mg) : mg "is_lots" = some (.ref (He.ga K "is_lots")) := T.glo 10 rfl
theorem Tx.g_fears_fit (T : Tx K mg) : mg "fears_fit" = some (.ref (He.ga K "fears_fit")) := T.glo 11 rfl
theorem Tx.g_ground_fits (T : Tx K mg) : mg "ground_fits" = some (.ref (He.ga K "ground_fits")) := T.glo 12 rfl
theorem Tx.g_lot_within (T : Tx K mg) : mg "lot_within" = some (.ref (He.ga K "lot_within")) := T.glo 13 rfl
theorem Tx.g_others_in (T : Tx K mg) : mg "others_in" = some (.ref (He.ga K "others_in")) := T.glo 14 rfl
theorem Tx.g_lots_in (T : Tx K mg) : mg "lots_in" = some (.ref (He.ga K "lots_in")) := T.glo 15 rfl
theorem Tx.g_greatest_in (T : Tx K mg) : mg "greatest_in" = some (.ref (He.ga K "greatest_in")) := T.glo 16 rfl
theorem Tx.g_feared_in (T : Tx K mg) : mg "feared_in" = some (.ref (He.ga K "feared_in")) := T.glo 17 rfl
theorem Tx.g_blind_in (T : Tx K mg) : mg "blind_in" = some (.ref (He.ga K "blind_in")) := T.glo 18 rfl
theorem Tx.g_wire_fits (T : Tx K mg) : mg "wire_fits" = some (.ref (He.ga K "wire_fits")) := T.glo 19 rfl
theorem Tx.g_net_fits (T : Tx K mg) : mg "net_fits" = some (.ref (He.ga K "net_fits")) := T.glo 20 rfl
theorem Tx.g_two_fit (T : Tx K mg) : mg "two_fit" = some (.ref (He.ga K "two_fit")) := T.glo 21 rfl
theorem Tx.g_wire_between (T : Tx K mg) : mg "wire_between" = some (.ref (He.ga K "wire_between")) := T.glo 22 rfl
theorem Tx.g_bare_wired (T : Tx K mg) : mg "bare_wired" = some (.ref (He.ga K "bare_wired")) := T.glo 23 rfl
theorem Tx.g_bare_sides (T : Tx K mg) : mg "bare_sides" = some (.ref (He.ga K "bare_sides")) := T.glo 24 rfl
theorem Tx.g_bare_divides (T : Tx K mg) : mg "bare_divides" = some (.ref (He.ga K "bare_divides")) := T.glo 25 rfl
theorem Tx.g_bare_way (T : Tx K mg) : mg "bare_way" = some (.ref (He.ga K "bare_way")) := T.glo 26 rfl
theorem Tx.g_bare_between (T : Tx K mg) : mg "bare_between" = some (.ref (He.ga K "bare_between")) := T.glo 27 rfl
theorem Tx.g_between_lots (T : Tx K mg) : mg "between_lots" = some (.ref (He.ga K "between_lots")) := T.glo 28 rfl
theorem Tx.g_can_send (T : Tx K mg) : mg "can_send" = some (.ref (He.ga K "can_send")) := T.glo 29 rfl
theorem Tx.g_secret_paper (T : Tx K mg) : mg "secret_paper" = some (.ref (He.ga K "secret_paper")) := T.glo 30 rfl
theorem Tx.g_left_in (T : Tx K mg) : mg "left_in" = some (.ref (He.ga K "left_in")) := T.glo 31 rfl
theorem Tx.g_left_out (T : Tx K mg) : mg "left_out" = some (.ref (He.ga K "left_out")) := T.glo 32 rfl
theorem Tx.g_feared_too (T : Tx K mg) : mg "feared_too" = some (.ref (He.ga K "feared_too")) := T.glo 33 rfl
theorem Tx.g_calmed (T : Tx K mg) : mg "calmed" = some (.ref (He.ga K "calmed")) := T.glo 34 rfl
theorem Tx.g_mesh_of (T : Tx K mg) : mg "mesh_of" = some (.ref (He.ga K "mesh_of")) := T.glo 35 rfl
theorem Tx.g_is_way (T : Tx K mg) : mg "is_way" = some (.ref (He.ga K "is_way")) := T.glo 36 rfl
theorem Tx.g_wired_to (T : Tx K mg) : mg "wired_to" = some (.ref (He.ga K "wired_to")) := T.glo 37 rfl
theorem Tx.g_feared_lots (T : Tx K mg) : mg "feared_lots" = some (.ref (He.ga K "feared_lots")) := T.glo 38 rfl
theorem Tx.g_sides_of (T : Tx K mg) : mg "sides_of" = some (.ref (He.ga K "sides_of")) := T.glo 39 rfl
theorem Tx.g_divides (T : Tx K mg) : mg "divides" = some (.ref (He.ga K "divides")) := T.glo 40 rfl
theorem Tx.g_dividing_lots (T : Tx K mg) : mg "dividing_lots" = some (.ref (He.ga K "dividing_lots")) := T.glo 41 rfl
theorem Tx.g_is_sturdy (T : Tx K mg) : mg "is_sturdy" = some (.ref (He.ga K "is_sturdy")) := T.glo 42 rfl
theorem Tx.g_needed_wires (T : Tx K mg) : mg "needed_wires" = some (.ref (He.ga K "needed_wires")) := T.glo 43 rfl
theorem Tx.g_way_past (T : Tx K mg) : mg "way_past" = some (.ref (He.ga K "way_past")) := T.glo 44 rfl
theorem Tx.g_pairs_fit (T : Tx K mg) : mg "pairs_fit" = some (.ref (He.ga K "pairs_fit")) := T.glo 45 rfl
theorem Tx.g_net_by (T : Tx K mg) : mg "net_by" = some (.ref (He.ga K "net_by")) := T.glo 46 rfl
theorem Tx.g_Net (T : Tx K mg) : mg "Net" = some (.ref (He.ga K "Net")) := T.glo 47 rfl
theorem Tx.g__law_well (T : Tx K mg) : mg "_law_well" = some (.ref (He.ga K "_law_well")) := T.glo 48 rfl
theorem Tx.g__law_draw (T : Tx K mg) : mg "_law_draw" = some (.ref (He.ga K "_law_draw")) := T.glo 49 rfl
theorem Tx.g__law_within (T : Tx K mg) : mg "_law_within" = some (.ref (He.ga K "_law_within")) := T.glo 50 rfl
theorem Tx.g__law_others (T : Tx K mg) : mg "_law_others" = some (.ref (He.ga K "_law_others")) := T.glo 51 rfl
theorem Tx.g__law_lots (T : Tx K mg) : mg "_law_lots" = some (.ref (He.ga K "_law_lots")) := T.glo 52 rfl
theorem Tx.g__law_greatest (T : Tx K mg) : mg "_law_greatest" = some (.ref (He.ga K "_law_greatest")) := T.glo 53 rfl
theorem Tx.g__law_feared (T : Tx K mg) : mg "_law_feared" = some (.ref (He.ga K "_law_feared")) := T.glo 54 rfl
theorem Tx.g__law_mesh (T : Tx K mg) : mg "_law_mesh" = some (.ref (He.ga K "_law_mesh")) := T.glo 55 rfl
theorem Tx.g__law_joined (T : Tx K mg) : mg "_law_joined" = some (.ref (He.ga K "_law_joined")) := T.glo 56 rfl
theorem Tx.g__law_divided (T : Tx K mg) : mg "_law_divided" = some (.ref (He.ga K "_law_divided")) := T.glo 57 rfl
theorem Tx.g__law_long (T : Tx K mg) : mg "_law_long" = some (.ref (He.ga K "_law_long")) := T.glo 58 rfl
theorem Tx.g__law_between (T : Tx K mg) : mg "_law_between" = some (.ref (He.ga K "_law_between")) := T.glo 59 rfl
theorem Tx.g__law_is_house (T : Tx K mg) : mg "_law_is_house" = some (.ref (He.ga K "_law_is_house")) := T.glo 60 rfl
theorem Tx.g__law_way_fits (T : Tx K mg) : mg "_law_way_fits" = some (.ref (He.ga K "_law_way_fits")) := T.glo 61 rfl
theorem Tx.g__law_fears (T : Tx K mg) : mg "_law_fears" = some (.ref (He.ga K "_law_fears")) := T.glo 62 rfl
theorem Tx.g__law_net (T : Tx K mg) : mg "_law_net" = some (.ref (He.ga K "_law_net")) := T.glo 63 rfl
theorem Tx.g__law_object (T : Tx K mg) : mg "_law_object" = some (.ref (He.ga K "_law_object")) := T.glo 64 rfl
theorem Tx.g__law_anew (T : Tx K mg) : mg "_law_anew" = some (.ref (He.ga K "_law_anew")) := T.glo 65 rfl
theorem Tx.g__law_left (T : Tx K mg) : mg "_law_left" = some (.ref (He.ga K "_law_left")) := T.glo 66 rfl
theorem Tx.g__law_pair (T : Tx K mg) : mg "_law_pair" = some (.ref (He.ga K "_law_pair")) := T.glo 67 rfl
theorem Tx.g__law_drawn_pair (T : Tx K mg) : mg "_law_drawn_pair" = some (.ref (He.ga K "_law_drawn_pair")) := T.glo 68 rfl
theorem Tx.g__law_past (T : Tx K mg) : mg "_law_past" = some (.ref (He.ga K "_law_past")) := T.glo 69 rfl
theorem Tx.g__law_sides (T : Tx K mg) : mg "_law_sides" = some (.ref (He.ga K "_law_sides")) := T.glo 70 rfl
theorem Tx.g__law_needed (T : Tx K mg) : mg "_law_needed" = some (.ref (He.ga K "_law_needed")) := T.glo 71 rfl
theorem Tx.g__law_grounds (T : Tx K mg) : mg "_law_grounds" = some (.ref (He.ga K "_law_grounds")) := T.glo 72 rfl
theorem Tx.g__law_thin (T : Tx K mg) : mg "_law_thin" = some (.ref (He.ga K "_law_thin")) := T.glo 73 rfl
theorem Tx.g_law (T : Tx K mg) : mg "law" = some (.ref (He.ga K "law")) := T.glo 74 rfl
theorem Tx.b_len (T : Tx K mg) : mg "len" = none := T.free 75 rfl
theorem Tx.b_tuple (T : Tx K mg) : mg "tuple" = none := T.free 76 rfl
theorem Tx.b_list (T : Tx K mg) : mg "list" = none := T.free 77 rfl
theorem Tx.b_int (T : Tx K mg) : mg "int" = none := T.free 78 rfl
theorem Tx.b_bool (T : Tx K mg) : mg "bool" = none := T.free 79 rfl
theorem Tx.b_abs (T : Tx K mg) : mg "abs" = none := T.free 80 rfl
theorem Tx.b_all (T : Tx K mg) : mg "all" = none := T.free 81 rfl
theorem Tx.b_any (T : Tx K mg) : mg "any" = none := T.free 82 rfl
theorem Tx.b_min (T : Tx K mg) : mg "min" = none := T.free 83 rfl
theorem Tx.b_max (T : Tx K mg) : mg "max" = none := T.free 84 rfl
theorem Tx.b_sorted (T : Tx K mg) : mg "sorted" = none := T.free 85 rfl
theorem Tx.b_repr (T : Tx K mg) : mg "repr" = none := T.free 86 rfl
theorem Tx.b_isinstance (T : Tx K mg) : mg "isinstance" = none := T.free 87 rfl
theorem Tx.b_set (T : Tx K mg) : mg "set" = none := T.free 88 rfl
theorem Tx.b_range (T : Tx K mg) : mg "range" = none := T.free 89 rfl
theorem Tx.b_iter (T : Tx K mg) : mg "iter" = none := T.free 90 rfl
theorem Tx.b_ValueError (T : Tx K mg) : mg "ValueError" = none := T.free 91 rfl
theorem Tx.f_NotUsable___init__ (T : Tx K mg) : ∃ fd, FunD K "__init__" "NotUsable.__init__" (defArgs s_NotUsable___init__) (defBody s_NotUsable___init__) (defScope s_NotUsable___init__) [] [] (He.ma K (He.ga K "NotUsable") "__init__") fd := T.dfn 0 rfl
theorem Tx.f_a_want (T : Tx K mg) : ∃ fd, FunD K "a_want" "a_want" (defArgs s_a_want) (defBody s_a_want) (defScope s_a_want) [] [] (He.ga K "a_want") fd := T.dfn 1 rfl
theorem Tx.f_integer_fits (T : Tx K mg) : ∃ fd, FunD K "integer_fits" "integer_fits" (defArgs s_integer_fits) (defBody s_integer_fits) (defScope s_integer_fits) [] [] (He.ga K "integer_fits") fd := T.dfn 2 rfl
theorem Tx.f_number_fits (T : Tx K mg) : ∃ fd, FunD K "number_fits" "number_fits" (defArgs s_number_fits) (defBody s_number_fits) (defScope s_number_fits) [] [] (He.ga K "number_fits") fd := T.dfn 3 rfl
theorem Tx.f_many_fits (T : Tx K mg) : ∃ fd, FunD K "many_fits" "many_fits" (defArgs s_many_fits) (defBody s_many_fits) (defScope s_many_fits) [] [] (He.ga K "many_fits") fd := T.dfn 4 rfl
theorem Tx.f_sizes_fit (T : Tx K mg) : ∃ fd, FunD K "sizes_fit" "sizes_fit" (defArgs s_sizes_fit) (defBody s_sizes_fit) (defScope s_sizes_fit) [] [] (He.ga K "sizes_fit") fd := T.dfn 5 rfl
theorem Tx.f_house_fits (T : Tx K mg) : ∃ fd, FunD K "house_fits" "house_fits" (defArgs s_house_fits) (defBody s_house_fits) (defScope s_house_fits) [] [] (He.ga K "house_fits") fd := T.dfn 6 rfl
theorem Tx.f_lot_fits (T : Tx K mg) : ∃ fd, FunD K "lot_fits" "lot_fits" (defArgs s_lot_fits) (defBody s_lot_fits) (defScope s_lot_fits) [] [] (He.ga K "lot_fits") fd := T.dfn 7 rfl
theorem Tx.f_is_lots (T : Tx K mg) : ∃ fd, FunD K "is_lots" "is_lots" (defArgs s_is_lots) (defBody s_is_lots) (defScope s_is_lots) [] [] (He.ga K "is_lots") fd := T.dfn 8 rfl
theorem Tx.f_fears_fit (T : Tx K mg) : ∃ fd, FunD K "fears_fit" "fears_fit" (defArgs s_fears_fit) (defBody s_fears_fit) (defScope s_fears_fit) [] [] (He.ga K "fears_fit") fd := T.dfn 9 rfl
theorem Tx.f_ground_fits (T : Tx K mg) : ∃ fd, FunD K "ground_fits" "ground_fits" (defArgs s_ground_fits) (defBody s_ground_fits) (defScope s_ground_fits) [] [] (He.ga K "ground_fits") fd := T.dfn 10 rfl
theorem Tx.f_lot_within (T : Tx K mg) : ∃ fd, FunD K "lot_within" "lot_within" (defArgs s_lot_within) (defBody s_lot_within) (defScope s_lot_within) [] [] (He.ga K "lot_within") fd := T.dfn 11 rfl
theorem Tx.f_others_in (T : Tx K mg) : ∃ fd, FunD K "others_in" "others_in" (defArgs s_others_in) (defBody s_others_in) (defScope s_others_in) [] [] (He.ga K "others_in") fd := T.dfn 12 rfl
theorem Tx.f_lots_in (T : Tx K mg) : ∃ fd, FunD K "lots_in" "lots_in" (defArgs s_lots_in) (defBody s_lots_in) (defScope s_lots_in) [] [] (He.ga K "lots_in") fd := T.dfn 13 rfl
theorem Tx.f_greatest_in (T : Tx K mg) : ∃ fd, FunD K "greatest_in" "greatest_in" (defArgs s_greatest_in) (defBody s_greatest_in) (defScope s_greatest_in) [] [] (He.ga K "greatest_in") fd := T.dfn 14 rfl
theorem Tx.f_feared_in (T : Tx K mg) : ∃ fd, FunD K "feared_in" "feared_in" (defArgs s_feared_in) (defBody s_feared_in) (defScope s_feared_in) [] [] (He.ga K "feared_in") fd := T.dfn 15 rfl
theorem Tx.f_blind_in (T : Tx K mg) : ∃ fd, FunD K "blind_in" "blind_in" (defArgs s_blind_in) (defBody s_blind_in) (defScope s_blind_in) [] [] (He.ga K "blind_in") fd := T.dfn 16 rfl
theorem Tx.f_wire_fits (T : Tx K mg) : ∃ fd, FunD K "wire_fits" "wire_fits" (defArgs s_wire_fits) (defBody s_wire_fits) (defScope s_wire_fits) [] [] (He.ga K "wire_fits") fd := T.dfn 17 rfl
theorem Tx.f_net_fits (T : Tx K mg) : ∃ fd, FunD K "net_fits" "net_fits" (defArgs s_net_fits) (defBody s_net_fits) (defScope s_net_fits) [] [] (He.ga K "net_fits") fd := T.dfn 18 rfl
theorem Tx.f_two_fit (T : Tx K mg) : ∃ fd, FunD K "two_fit" "two_fit" (defArgs s_two_fit) (defBody s_two_fit) (defScope s_two_fit) [] [] (He.ga K "two_fit") fd := T.dfn 19 rfl
theorem Tx.f_wire_between (T : Tx K mg) : ∃ fd, FunD K "wire_between" "wire_between" (defArgs s_wire_between) (defBody s_wire_between) (defScope s_wire_between) [] [] (He.ga K "wire_between") fd := T.dfn 20 rfl
theorem Tx.f_bare_wired (T : Tx K mg) : ∃ fd, FunD K "bare_wired" "bare_wired" (defArgs s_bare_wired) (defBody s_bare_wired) (defScope s_bare_wired) [] [] (He.ga K "bare_wired") fd := T.dfn 21 rfl
theorem Tx.f_bare_sides (T : Tx K mg) : ∃ fd, FunD K "bare_sides" "bare_sides" (defArgs s_bare_sides) (defBody s_bare_sides) (defScope s_bare_sides) [] [] (He.ga K "bare_sides") fd := T.dfn 22 rfl
theorem Tx.f_bare_divides (T : Tx K mg) : ∃ fd, FunD K "bare_divides" "bare_divides" (defArgs s_bare_divides) (defBody s_bare_divides) (defScope s_bare_divides) [] [] (He.ga K "bare_divides") fd := T.dfn 23 rfl
theorem Tx.f_bare_way (T : Tx K mg) : ∃ fd, FunD K "bare_way" "bare_way" (defArgs s_bare_way) (defBody s_bare_way) (defScope s_bare_way) [] [] (He.ga K "bare_way") fd := T.dfn 24 rfl
theorem Tx.f_bare_between (T : Tx K mg) : ∃ fd, FunD K "bare_between" "bare_between" (defArgs s_bare_between) (defBody s_bare_between) (defScope s_bare_between) [] [] (He.ga K "bare_between") fd := T.dfn 25 rfl
theorem Tx.f_between_lots (T : Tx K mg) : ∃ fd, FunD K "between_lots" "between_lots" (defArgs s_between_lots) (defBody s_between_lots) (defScope s_between_lots) [] [] (He.ga K "between_lots") fd := T.dfn 26 rfl
theorem Tx.f_can_send (T : Tx K mg) : ∃ fd, FunD K "can_send" "can_send" (defArgs s_can_send) (defBody s_can_send) (defScope s_can_send) [] [] (He.ga K "can_send") fd := T.dfn 27 rfl
theorem Tx.f_secret_paper (T : Tx K mg) : ∃ fd, FunD K "secret_paper" "secret_paper" (defArgs s_secret_paper) (defBody s_secret_paper) (defScope s_secret_paper) [] [] (He.ga K "secret_paper") fd := T.dfn 28 rfl
theorem Tx.f_left_in (T : Tx K mg) : ∃ fd, FunD K "left_in" "left_in" (defArgs s_left_in) (defBody s_left_in) (defScope s_left_in) [] [] (He.ga K "left_in") fd := T.dfn 29 rfl
theorem Tx.f_left_out (T : Tx K mg) : ∃ fd, FunD K "left_out" "left_out" (defArgs s_left_out) (defBody s_left_out) (defScope s_left_out) [] [] (He.ga K "left_out") fd := T.dfn 30 rfl
theorem Tx.f_feared_too (T : Tx K mg) : ∃ fd, FunD K "feared_too" "feared_too" (defArgs s_feared_too) (defBody s_feared_too) (defScope s_feared_too) [] [] (He.ga K "feared_too") fd := T.dfn 31 rfl
theorem Tx.f_calmed (T : Tx K mg) : ∃ fd, FunD K "calmed" "calmed" (defArgs s_calmed) (defBody s_calmed) (defScope s_calmed) [] [] (He.ga K "calmed") fd := T.dfn 32 rfl
theorem Tx.f_mesh_of (T : Tx K mg) : ∃ fd, FunD K "mesh_of" "mesh_of" (defArgs s_mesh_of) (defBody s_mesh_of) (defScope s_mesh_of) [] [] (He.ga K "mesh_of") fd := T.dfn 33 rfl
theorem Tx.f_is_way (T : Tx K mg) : ∃ fd, FunD K "is_way" "is_way" (defArgs s_is_way) (defBody s_is_way) (defScope s_is_way) [] [] (He.ga K "is_way") fd := T.dfn 34 rfl
theorem Tx.f_wired_to (T : Tx K mg) : ∃ fd, FunD K "wired_to" "wired_to" (defArgs s_wired_to) (defBody s_wired_to) (defScope s_wired_to) [] [] (He.ga K "wired_to") fd := T.dfn 35 rfl
theorem Tx.f_feared_lots (T : Tx K mg) : ∃ fd, FunD K "feared_lots" "feared_lots" (defArgs s_feared_lots) (defBody s_feared_lots) (defScope s_feared_lots) [] [] (He.ga K "feared_lots") fd := T.dfn 36 rfl
theorem Tx.f_sides_of (T : Tx K mg) : ∃ fd, FunD K "sides_of" "sides_of" (defArgs s_sides_of) (defBody s_sides_of) (defScope s_sides_of) [] [] (He.ga K "sides_of") fd := T.dfn 37 rfl
theorem Tx.f_divides (T : Tx K mg) : ∃ fd, FunD K "divides" "divides" (defArgs s_divides) (defBody s_divides) (defScope s_divides) [] [] (He.ga K "divides") fd := T.dfn 38 rfl
theorem Tx.f_dividing_lots (T : Tx K mg) : ∃ fd, FunD K "dividing_lots" "dividing_lots" (defArgs s_dividing_lots) (defBody s_dividing_lots) (defScope s_dividing_lots) [] [] (He.ga K "dividing_lots") fd := T.dfn 39 rfl
theorem Tx.f_is_sturdy (T : Tx K mg) : ∃ fd, FunD K "is_sturdy" "is_sturdy" (defArgs s_is_sturdy) (defBody s_is_sturdy) (defScope s_is_sturdy) [] [] (He.ga K "is_sturdy") fd := T.dfn 40 rfl
theorem Tx.f_needed_wires (T : Tx K mg) : ∃ fd, FunD K "needed_wires" "needed_wires" (defArgs s_needed_wires) (defBody s_needed_wires) (defScope s_needed_wires) [] [] (He.ga K "needed_wires") fd := T.dfn 41 rfl
theorem Tx.f_way_past (T : Tx K mg) : ∃ fd, FunD K "way_past" "way_past" (defArgs s_way_past) (defBody s_way_past) (defScope s_way_past) [] [] (He.ga K "way_past") fd := T.dfn 42 rfl
theorem Tx.f_pairs_fit (T : Tx K mg) : ∃ fd, FunD K "pairs_fit" "pairs_fit" (defArgs s_pairs_fit) (defBody s_pairs_fit) (defScope s_pairs_fit) [] [] (He.ga K "pairs_fit") fd := T.dfn 43 rfl
theorem Tx.f_net_by (T : Tx K mg) : ∃ fd, FunD K "net_by" "net_by" (defArgs s_net_by) (defBody s_net_by) (defScope s_net_by) [] [] (He.ga K "net_by") fd := T.dfn 44 rfl
theorem Tx.f_Net___init__ (T : Tx K mg) : ∃ fd, FunD K "__init__" "Net.__init__" (defArgs s_Net___init__) (defBody s_Net___init__) (defScope s_Net___init__) [] [] (He.ma K (He.ga K "Net") "__init__") fd := T.dfn 45 rfl
theorem Tx.f_Net_past (T : Tx K mg) : ∃ fd, FunD K "past" "Net.past" (defArgs s_Net_past) (defBody s_Net_past) (defScope s_Net_past) [] [] (He.ma K (He.ga K "Net") "past") fd := T.dfn 46 rfl
theorem Tx.f_Net___call__ (T : Tx K mg) : ∃ fd, FunD K "__call__" "Net.__call__" (defArgs s_Net___call__) (defBody s_Net___call__) (defScope s_Net___call__) [] [] (He.ma K (He.ga K "Net") "__call__") fd := T.dfn 47 rfl
theorem Tx.f_Net___getitem__ (T : Tx K mg) : ∃ fd, FunD K "__getitem__" "Net.__getitem__" (defArgs s_Net___getitem__) (defBody s_Net___getitem__) (defScope s_Net___getitem__) [] [] (He.ma K (He.ga K "Net") "__getitem__") fd := T.dfn 48 rfl
theorem Tx.f_Net___add__ (T : Tx K mg) : ∃ fd, FunD K "__add__" "Net.__add__" (defArgs s_Net___add__) (defBody s_Net___add__) (defScope s_Net___add__) [] [] (He.ma K (He.ga K "Net") "__add__") fd := T.dfn 49 rfl
theorem Tx.f_Net___invert__ (T : Tx K mg) : ∃ fd, FunD K "__invert__" "Net.__invert__" (defArgs s_Net___invert__) (defBody s_Net___invert__) (defScope s_Net___invert__) [] [] (He.ma K (He.ga K "Net") "__invert__") fd := T.dfn 50 rfl
theorem Tx.f_Net___len__ (T : Tx K mg) : ∃ fd, FunD K "__len__" "Net.__len__" (defArgs s_Net___len__) (defBody s_Net___len__) (defScope s_Net___len__) [] [] (He.ma K (He.ga K "Net") "__len__") fd := T.dfn 51 rfl
theorem Tx.f_Net___iter__ (T : Tx K mg) : ∃ fd, FunD K "__iter__" "Net.__iter__" (defArgs s_Net___iter__) (defBody s_Net___iter__) (defScope s_Net___iter__) [] [] (He.ma K (He.ga K "Net") "__iter__") fd := T.dfn 52 rfl
theorem Tx.f_Net___eq__ (T : Tx K mg) : ∃ fd, FunD K "__eq__" "Net.__eq__" (defArgs s_Net___eq__) (defBody s_Net___eq__) (defScope s_Net___eq__) [] [] (He.ma K (He.ga K "Net") "__eq__") fd := T.dfn 53 rfl
theorem Tx.f__law_well (T : Tx K mg) : ∃ fd, FunD K "_law_well" "_law_well" (defArgs s__law_well) (defBody s__law_well) (defScope s__law_well) [] [] (He.ga K "_law_well") fd := T.dfn 54 rfl
theorem Tx.f__law_draw (T : Tx K mg) : ∃ fd, FunD K "_law_draw" "_law_draw" (defArgs s__law_draw) (defBody s__law_draw) (defScope s__law_draw) [] [] (He.ga K "_law_draw") fd := T.dfn 55 rfl
theorem Tx.f__law_within (T : Tx K mg) : ∃ fd, FunD K "_law_within" "_law_within" (defArgs s__law_within) (defBody s__law_within) (defScope s__law_within) [] [] (He.ga K "_law_within") fd := T.dfn 56 rfl
theorem Tx.f__law_others (T : Tx K mg) : ∃ fd, FunD K "_law_others" "_law_others" (defArgs s__law_others) (defBody s__law_others) (defScope s__law_others) [] [] (He.ga K "_law_others") fd := T.dfn 57 rfl
theorem Tx.f__law_lots (T : Tx K mg) : ∃ fd, FunD K "_law_lots" "_law_lots" (defArgs s__law_lots) (defBody s__law_lots) (defScope s__law_lots) [] [] (He.ga K "_law_lots") fd := T.dfn 58 rfl
theorem Tx.f__law_greatest (T : Tx K mg) : ∃ fd, FunD K "_law_greatest" "_law_greatest" (defArgs s__law_greatest) (defBody s__law_greatest) (defScope s__law_greatest) [] [] (He.ga K "_law_greatest") fd := T.dfn 59 rfl
theorem Tx.f__law_feared (T : Tx K mg) : ∃ fd, FunD K "_law_feared" "_law_feared" (defArgs s__law_feared) (defBody s__law_feared) (defScope s__law_feared) [] [] (He.ga K "_law_feared") fd := T.dfn 60 rfl
theorem Tx.f__law_mesh (T : Tx K mg) : ∃ fd, FunD K "_law_mesh" "_law_mesh" (defArgs s__law_mesh) (defBody s__law_mesh) (defScope s__law_mesh) [] [] (He.ga K "_law_mesh") fd := T.dfn 61 rfl
theorem Tx.f__law_joined (T : Tx K mg) : ∃ fd, FunD K "_law_joined" "_law_joined" (defArgs s__law_joined) (defBody s__law_joined) (defScope s__law_joined) [] [] (He.ga K "_law_joined") fd := T.dfn 62 rfl
theorem Tx.f__law_divided (T : Tx K mg) : ∃ fd, FunD K "_law_divided" "_law_divided" (defArgs s__law_divided) (defBody s__law_divided) (defScope s__law_divided) [] [] (He.ga K "_law_divided") fd := T.dfn 63 rfl
theorem Tx.f__law_long (T : Tx K mg) : ∃ fd, FunD K "_law_long" "_law_long" (defArgs s__law_long) (defBody s__law_long) (defScope s__law_long) [] [] (He.ga K "_law_long") fd := T.dfn 64 rfl
theorem Tx.f__law_between (T : Tx K mg) : ∃ fd, FunD K "_law_between" "_law_between" (defArgs s__law_between) (defBody s__law_between) (defScope s__law_between) [] [] (He.ga K "_law_between") fd := T.dfn 65 rfl
theorem Tx.f__law_is_house (T : Tx K mg) : ∃ fd, FunD K "_law_is_house" "_law_is_house" (defArgs s__law_is_house) (defBody s__law_is_house) (defScope s__law_is_house) [] [] (He.ga K "_law_is_house") fd := T.dfn 66 rfl
theorem Tx.f__law_way_fits (T : Tx K mg) : ∃ fd, FunD K "_law_way_fits" "_law_way_fits" (defArgs s__law_way_fits) (defBody s__law_way_fits) (defScope s__law_way_fits) [] [] (He.ga K "_law_way_fits") fd := T.dfn 67 rfl
theorem Tx.f__law_fears (T : Tx K mg) : ∃ fd, FunD K "_law_fears" "_law_fears" (defArgs s__law_fears) (defBody s__law_fears) (defScope s__law_fears) [] [] (He.ga K "_law_fears") fd := T.dfn 68 rfl
theorem Tx.f__law_net (T : Tx K mg) : ∃ fd, FunD K "_law_net" "_law_net" (defArgs s__law_net) (defBody s__law_net) (defScope s__law_net) [] [] (He.ga K "_law_net") fd := T.dfn 69 rfl
theorem Tx.f__law_object (T : Tx K mg) : ∃ fd, FunD K "_law_object" "_law_object" (defArgs s__law_object) (defBody s__law_object) (defScope s__law_object) [] [] (He.ga K "_law_object") fd := T.dfn 70 rfl
theorem Tx.f__law_anew (T : Tx K mg) : ∃ fd, FunD K "_law_anew" "_law_anew" (defArgs s__law_anew) (defBody s__law_anew) (defScope s__law_anew) [] [] (He.ga K "_law_anew") fd := T.dfn 71 rfl
theorem Tx.f__law_left (T : Tx K mg) : ∃ fd, FunD K "_law_left" "_law_left" (defArgs s__law_left) (defBody s__law_left) (defScope s__law_left) [] [] (He.ga K "_law_left") fd := T.dfn 72 rfl
theorem Tx.f__law_pair (T : Tx K mg) : ∃ fd, FunD K "_law_pair" "_law_pair" (defArgs s__law_pair) (defBody s__law_pair) (defScope s__law_pair) [] [] (He.ga K "_law_pair") fd := T.dfn 73 rfl
theorem Tx.f__law_drawn_pair (T : Tx K mg) : ∃ fd, FunD K "_law_drawn_pair" "_law_drawn_pair" (defArgs s__law_drawn_pair) (defBody s__law_drawn_pair) (defScope s__law_drawn_pair) [] [] (He.ga K "_law_drawn_pair") fd := T.dfn 74 rfl
theorem Tx.f__law_past (T : Tx K mg) : ∃ fd, FunD K "_law_past" "_law_past" (defArgs s__law_past) (defBody s__law_past) (defScope s__law_past) [] [] (He.ga K "_law_past") fd := T.dfn 75 rfl
theorem Tx.f__law_sides (T : Tx K mg) : ∃ fd, FunD K "_law_sides" "_law_sides" (defArgs s__law_sides) (defBody s__law_sides) (defScope s__law_sides) [] [] (He.ga K "_law_sides") fd := T.dfn 76 rfl
theorem Tx.f__law_needed (T : Tx K mg) : ∃ fd, FunD K "_law_needed" "_law_needed" (defArgs s__law_needed) (defBody s__law_needed) (defScope s__law_needed) [] [] (He.ga K "_law_needed") fd := T.dfn 77 rfl
theorem Tx.f__law_grounds (T : Tx K mg) : ∃ fd, FunD K "_law_grounds" "_law_grounds" (defArgs s__law_grounds) (defBody s__law_grounds) (defScope s__law_grounds) [] [] (He.ga K "_law_grounds") fd := T.dfn 78 rfl
theorem Tx.f__law_thin (T : Tx K mg) : ∃ fd, FunD K "_law_thin" "_law_thin" (defArgs s__law_thin) (defBody s__law_thin) (defScope s__law_thin) [] [] (He.ga K "_law_thin") fd := T.dfn 79 rfl
theorem Tx.f_law (T : Tx K mg) : ∃ fd, FunD K "law" "law" (defArgs s_law) (defBody s_law) (defScope s_law) [] [] (He.ga K "law") fd := T.dfn 80 rfl
end
end Hd
set_option maxHeartbeats 0
/-! ## HdRun -/
namespace Hd
open PySem PySem.Spec
        PyProof.Rows L2
abbrev R : PySem.W.OpenRow := PySem.W.OpenLaw.row PySem.Challenge.rw_closereckoned_k81_whole_sides_beside_bet
abbrev Ale : Type := He.AlD × Bool
def obsE (g : Addr → Option Obj) : Ale := (fun K => (He.obsD fa fn K, exB K)) (He.frG g (He.asD g 4))
def hk : PySem.W.Hook where
  α := Ale
  obs := fun s => obsE s.heap.get?
  val := fun _ => (He.valD fn, true)
  says := fun _ h => ∃ K : PySem.W.Frag, K.In h ∧ He.SaysD fa fn K ∧ exB K = true
  of := fun _ _ e => ⟨_, He.frG_in, congrArg (fun z : Ale => z.1) e, congrArg (fun z : Ale => z.2) e⟩
  keeps := fun _ _ _ ⟨K, hK, c⟩ k =>
          ⟨K, PySem.W.Frag.In.keeps hK k, c⟩
def ob (s : PySem.W.SharedT) : Ale := obsE (HandSHeadRun.getT s)
theorem ob_eq (s : PySem.W.SharedT) : ob s = hk.obs s.abs := by
  have e : HandSHeadRun.getT s = s.abs.heap.get? := funext (HandSHeadRun.getT_eq s)
  show obsE (HandSHeadRun.getT s) = obsE s.abs.heap.get?
  rw [e]
def nm0 : List PySem.Str := ["_wall", "ReckonError", "GroundError", "NotUsable", "a_want", "integer_fits", "number_fits", "many_fits", "sizes_fit", "house_fits", "lot_fits", "is_lots", "fears_fit", "ground_fits", "lot_within", "others_in", "lots_in", "greatest_in", "feared_in", "blind_in", "wire_fits", "net_fits", "two_fit", "wire_between", "bare_wired", "bare_sides", "bare_divides", "bare_way", "bare_between", "between_lots"]
def nm1 : List PySem.Str := ["can_send", "secret_paper", "left_in", "left_out", "feared_too", "calmed", "mesh_of", "is_way", "wired_to", "feared_lots", "sides_of", "divides", "dividing_lots", "is_sturdy", "needed_wires", "way_past", "pairs_fit", "net_by", "Net", "_law_well", "_law_draw", "_law_within", "_law_others", "_law_lots", "_law_greatest", "_law_feared", "_law_mesh", "_law_joined", "_law_divided", "_law_long"]
def nm2 : List PySem.Str := ["_law_between", "_law_is_house", "_law_way_fits", "_law_fears", "_law_net", "_law_object", "_law_anew", "_law_left", "_law_pair", "_law_drawn_pair", "_law_past", "_law_sides", "_law_needed", "_law_grounds", "_law_thin"]
def names : List PySem.Str := nm0 ++ nm1 ++ nm2
theorem run (w : World) : HandSHeadRun.RunEq R (PySem.W.view R.prog [86]) hk ob 20000 names w := by
  intro os
  kernel_rfl
end Hd
set_option
        maxHeartbeats 2000000
/-! ## Dl -/
namespace Dy
open PySem L2 PyProof.Rows
abbrev Fg := PySem.W.Frag
abbrev Ex := Evl.Ex
/-- what never changes: all but lists, dicts, sets -/
def isMut : HO → Bool
  | .lst _ => true
  | .dK _ => true
  | .dT _ => true
  | .set _ _ => true
  | _ => false
def Keep (H H' : Hp) : Prop := ∀ a o, H a = some o → isMut o = false → H' a = some o
theorem Keep.refl {H : Hp} : Keep H H := fun _ _ h _ => h
theorem Keep.trans {H H1 H2 : Hp} (a : Keep H H1) (b : Keep H1 H2) : Keep H H2 := fun x o h m => b x o (a x o h m) m
theorem keep_ex {H H' : Hp} (e : Ex H H') : Keep H H' := fun a o h _ => e a o h
theorem keep_upd {H : Hp} {l : Addr} {o o' : HO} (h : H l = some o) (m : isMut o = true) : Keep H (upd H l o') := fun a u ha hm => by
  by_cases e : a = l
  · subst e
    rw [h] at ha
    cases ha
    rw [m] at hm
    cases hm
  · rw [upd_ne e]
    exact ha
theorem keep_t {K : Fg} {H H' : Hp} {a : Addr} {xs : List V} (e : Keep H H') (h : SqT K H a xs) : SqT K H' a xs := by
  rcases h with
          (h | ⟨o, h⟩) | h
  · exact .inl (.inl (e a _ h rfl))
  · exact .inl (.inr ⟨o, e a _ h rfl⟩)
  · exact .inr h
theorem paired_mono {α β : Type} {F G : α → β → Prop} (h : ∀ a b, F a b → G a b) : ∀ {xs : List α} {ys : List β}, Paired F xs ys → Paired G xs ys
  | _, _, .nil => .nil
  | _, _, .cons r t => .cons (h _ _ r) (paired_mono h t)
theorem paired_len {α β : Type} {F : α → β → Prop} : ∀ {xs : List α} {ys : List β}, Paired F xs ys → xs.length = ys.length
  | _, _, .nil => rfl
  | _, _, .cons _ t => by rw [List.length_cons, List.length_cons, paired_len t]
theorem paired_get {α β : Type} {F : α → β → Prop} : ∀ {xs : List α} {ys : List β} {i : Nat} {x : α}, Paired F xs ys → xs[i]? = some x → ∃ y, ys[i]? = some y ∧ F x y
  | _, _, _, _, .nil,
          e => by simp at e
  | _, _, 0, _, .cons r _, e =>
          by simp at e; subst e; exact ⟨_, rfl, r⟩
  | _, _, i + 1, x,
          .cons _ t, e => by
    obtain ⟨u, h1, h2⟩ := paired_get (i := i) (x := x) t (by simpa using e)
    exact ⟨u,
            by simpa using h1, h2⟩
theorem paired_get' {α β : Type} {F : α → β → Prop} : ∀ {xs : List α} {ys : List β} {i : Nat} {y : β}, Paired F xs ys → ys[i]? = some y → ∃ x, xs[i]? = some x ∧ F x y
  | _, _, _, _, .nil,
          e => by simp at e
  | _, _, 0, _, .cons r _, e =>
          by simp at e; subst e; exact ⟨_, rfl, r⟩
  | _, _, i + 1, x,
          .cons _ t, e => by
    obtain ⟨u, h1, h2⟩ := paired_get' (i := i) (y := x) t (by simpa using e)
    exact ⟨u,
            by simpa using h1, h2⟩
theorem paired_append {α β : Type} {F : α → β → Prop} : ∀ {xs xs' : List α} {ys ys' : List β}, Paired F xs ys → Paired F xs' ys' → Paired F (xs ++ xs') (ys ++ ys')
  | _, _, _, _, .nil, s => s
  | _, _, _, _, .cons r t, s => .cons r (paired_append t s)
theorem paired_take {α β : Type} {F : α → β → Prop} : ∀ {xs : List α} {ys : List β} (n : Nat), Paired F xs ys → Paired F (xs.take n) (ys.take n)
  | _, _, 0, _ => by simp; exact .nil
  | _, _, _ + 1, .nil => .nil
  | _, _, n + 1, .cons r t => .cons r (paired_take n t)
theorem paired_drop {α β : Type} {F : α → β → Prop} : ∀ {xs : List α} {ys : List β} (n : Nat), Paired F xs ys → Paired F (xs.drop n) (ys.drop n)
  | _, _, 0, r => r
  | _, _, _ + 1, .nil => .nil
  | _, _, n + 1, .cons _ t => paired_drop n t
theorem paired_set {α β : Type} {F : α → β → Prop} {x : α} {y : β} (r : F x y) : ∀ {xs : List α} {ys : List β} (i : Nat), Paired F xs ys → Paired F (xs.set i x) (ys.set i y)
  | _, _, _, .nil => .nil
  | _, _, 0, .cons
          _ t => .cons r t
  | _, _, i + 1, .cons q t => .cons q (paired_set r i t)
theorem paired_erase {α β : Type} {F : α → β → Prop} : ∀ {xs : List α} {ys : List β} (i : Nat), Paired F xs ys → Paired F (xs.eraseIdx i) (ys.eraseIdx i)
  | _, _, _, .nil => .nil
  | _, _, 0, .cons _ t => t
  | _, _, i + 1, .cons q t => .cons q (paired_erase i t)

/-! ### values that stand for data -/
def LIM : Nat := 100000
theorem lim_le {n : Nat} (h : n ≤ LIM) : n ≤ sizeLine := Nat.le_trans h (by decide)
theorem lim_lt {n : Nat} (h : n ≤ LIM) : n < sizeLine := Nat.lt_of_le_of_lt h (by decide)
class Enc (α : Type) where
  R : Fg → Hp → V → α → Prop
  mono : ∀ {K : Fg} {H H' : Hp} {v : V} {x : α}, Ex H H' → R K H v x → R K H' v x
  nw : Hp → V → Prop
  nwm : ∀ {H H' : Hp} {v : V}, Ex H H' → nw H' v → nw H v
class Dat (α : Type) extends Enc α where
  d : α → PyData
  dep : Nat
  dp : ∀ {K : Fg} {H : Hp} {v : V} {x : α}, R K H v x → Dp K H v (d x)
  lay : ∀ x, (d x).canLay0 = true
  depth : ∀ x, (d x).depth ≤ dep
  inj : ∀ x y, PyData.eqv (d x) (d y) = true ↔ x = y
class Kp (α : Type) extends Enc α where
  keep : ∀ {K : Fg} {H H' : Hp} {v : V} {x : α}, Keep H H' → R K H v x → R K H' v x
  nwT : ∀ (H : Hp) (v : V), nw H v
class Frz (α : Type) extends Dat α, Kp α
theorem Dat.shaped {α : Type} [Dat α] (x : α) (h : Dat.dep α ≤ 64 := by decide) : SeqAt.shaped (Dat.d x) = true := by
  unfold SeqAt.shaped
  rw [Dat.lay, Bool.true_and]
  exact decide_eq_true (Nat.le_trans (Dat.depth x) h)
theorem Dat.eqv {α : Type} [Dat α] [DecidableEq α] (x y : α) : PyData.eqv (Dat.d x) (Dat.d y) = decide (x = y) := by
  by_cases h : x = y
  · rw [decide_eq_true h]
    exact (Dat.inj x y).mpr h
  · rw [decide_eq_false h, Bool.eq_false_iff]
    exact fun z => h ((Dat.inj x y).mp z)
instance : Frz Int where
  R _ _ v i := v = .int i
  mono _ h := h
  nw _ _ := True
  nwm _ h := h
  d := .int
  dep := 0
  dp h := by subst h; exact .int _
  lay _ := by simp [PyData.canLay0]
  depth _ := by simp [PyData.depth]
  inj x y := by simp [PyData.eqv]
  keep _ h := h
  nwT _ _ := trivial
instance : Frz Bool where
  R _ _ v i := v = .bl i
  mono _ h := h
  nw _ _ := True
  nwm _ h := h
  d := .bool
  dep := 0
  dp h := by subst h; exact .bl _
  lay _ := by simp [PyData.canLay0]
  depth _ := by simp [PyData.depth]
  inj x y := by simp [PyData.eqv]
  keep _ h := h
  nwT _ _ := trivial
instance : Frz Unit where
  R _ _ v _ := v = .non
  mono _ h := h
  nw _ _ := True
  nwm _ h := h
  d _ := .none
  dep := 0
  dp h := by subst h; exact .non
  lay _ := by simp [PyData.canLay0]
  depth _ := by simp [PyData.depth]
  inj x y := by simp [PyData.eqv]
  keep _ h := h
  nwT _ _ := trivial
section
variable {α β : Type}
def dAll [Dat α] (xs : List α) : List PyData := xs.map Dat.d
theorem canLayAll_map [Dat α] : ∀ xs : List α, PyData.canLayAll0 (xs.map Dat.d) = true
  | [] =>
          by simp [PyData.canLayAll0]
  | x :: xs => by simp [PyData.canLayAll0, Dat.lay x, canLayAll_map xs]
theorem depthAll_map [Dat α] : ∀ xs : List α, PyData.depthAll (xs.map Dat.d) ≤ Dat.dep α
  | [] =>
          by simp [PyData.depthAll]
  | x :: xs => by
    simp only [List.map_cons,
            PyData.depthAll]
    exact Nat.max_le.mpr ⟨Dat.depth x, depthAll_map xs⟩
theorem eqvAll_map [Dat α] : ∀ xs ys : List α, PyData.eqvAll (xs.map Dat.d) (ys.map Dat.d) = true ↔ xs = ys
  | [], [] =>
          by simp [PyData.eqvAll]
  | [], _ :: _ =>
          by simp [PyData.eqvAll]
  | _ :: _, [] =>
          by simp [PyData.eqvAll]
  | x :: xs, y :: ys => by
    simp only [List.map_cons, PyData.eqvAll, Bool.and_eq_true, List.cons.injEq, Dat.inj x y, eqvAll_map xs ys]
theorem dpAll_map [Dat α] {K : Fg} {H : Hp} : ∀ {vs : List V} {xs : List α}, Paired (Enc.R K H) vs xs → DpAll K H vs (xs.map Dat.d)
  | _, _, .nil => .nil
  | _, _, .cons r t => .cons (Dat.dp r) (dpAll_map t)
end
instance {α : Type} [Frz α] : Frz (List α) where
  R K H v xs := ∃ a vs, v = .ref a ∧ SqT K H a vs ∧ xs.length ≤ LIM ∧ Paired (Enc.R K H) vs xs
  mono e := fun ⟨a, vs, h1, h2, h3, h4⟩ => ⟨a, vs, h1, Evl.ex_t e h2, h3, paired_mono (fun _ _ r => Enc.mono e r) h4⟩
  nw _ _ := True
  nwm _ h := h
  d xs := .tuple (xs.map Dat.d)
  dep := Dat.dep α + 1
  dp := fun ⟨a, vs, h1, h2, _, h4⟩ => by subst h1; exact .tup h2 (dpAll_map h4)
  lay xs := by simp only [PyData.canLay0]; exact canLayAll_map xs
  depth xs := by simp only [PyData.depth]; exact Nat.succ_le_succ (depthAll_map xs)
  inj xs ys := by simp only [PyData.eqv]; exact eqvAll_map xs ys
  keep e := fun ⟨a, vs, h1, h2, h3, h4⟩ => ⟨a, vs, h1, keep_t e h2, h3, paired_mono (fun _ _ r => Kp.keep e r) h4⟩
  nwT _ _ := trivial
instance {α β : Type} [Frz α] [Frz β] : Frz (α × β) where
  R K H v x := ∃ a v1 v2, v = .ref a ∧ SqT K H a [v1, v2] ∧ Enc.R K H v1 x.1 ∧ Enc.R K H v2 x.2
  mono e := fun ⟨a, v1, v2, h1, h2, h3, h4⟩ => ⟨a, v1, v2, h1, Evl.ex_t e h2, Enc.mono e h3, Enc.mono e h4⟩
  nw _ _ := True
  nwm _ h := h
  d x := .tuple [Dat.d x.1, Dat.d x.2]
  dep := max (Dat.dep α) (Dat.dep β) + 1
  dp := fun ⟨a, v1, v2, h1, h2, h3, h4⟩ => by subst h1; exact .tup h2 (.cons (Dat.dp h3) (.cons (Dat.dp h4) .nil))
  lay x := by simp [PyData.canLay0, PyData.canLayAll0, Dat.lay x.1, Dat.lay x.2]
  depth x := by
    have h1 := Dat.depth x.1
    have h2 := Dat.depth x.2
    simp only [PyData.depth,
            PyData.depthAll]
    omega
  inj x y := by
    obtain ⟨a, b⟩ := x
    obtain ⟨c, d⟩ := y
    simp [PyData.eqv, PyData.eqvAll, Dat.inj]
  keep e := fun ⟨a, v1, v2, h1, h2, h3, h4⟩ => ⟨a, v1, v2, h1, keep_t e h2, Kp.keep e h3, Kp.keep e h4⟩
  nwT _ _ := trivial
instance {α : Type} [Frz α] : Frz (Option (List α)) where
  R K H v x := match x with
    | none => v = .non
    | some xs => Enc.R K H v xs
  mono e h := by
    rename_i x
    cases x with
    | none => exact h
    | some xs => exact Enc.mono (α := List α) e h
  nw _ _ := True
  nwm _ h := h
  d x := match x with
    | none => .none
    | some xs => Dat.d xs
  dep := Dat.dep α + 1
  dp h := by
    rename_i x
    cases x with
    | none => cases h; exact .non
    | some xs => exact Dat.dp (α := List α) h
  lay x := by
    cases x with
    | none => simp [PyData.canLay0]
    | some xs => exact Dat.lay (α := List α) xs
  depth x := by
    cases x with
    | none => simp [PyData.depth]
    | some xs => exact Dat.depth (α := List α) xs
  inj x y := by
    cases x with
    | none => cases y with
      | none => simp [PyData.eqv]
      | some ys => simp [PyData.eqv, Dat.d]
    | some xs => cases y with
      | none => simp [PyData.eqv, Dat.d]
      | some ys =>
        show PyData.eqv (Dat.d (α := List α) xs) (Dat.d (α := List α) ys) = true ↔ _
        rw [Dat.inj (α := List α) xs ys, Option.some.injEq]
  keep e h := by
    rename_i x
    cases x with
    | none => exact h
    | some xs => exact Kp.keep (α := List α) e h
  nwT _ _ := trivial
/-- a list object -/
structure Lst (α : Type) where
  l : List α
  deriving DecidableEq
instance {α : Type} [Frz α] : Dat (Lst α) where
  R K H v xs := ∃ a vs, v = .ref a ∧ H a = some (.lst vs) ∧ xs.l.length ≤ LIM ∧ Paired (Enc.R K H) vs xs.l
  mono e := fun ⟨a, vs, h1, h2, h3, h4⟩ => ⟨a, vs, h1, e a _ h2, h3, paired_mono (fun _ _ r => Enc.mono e r) h4⟩
  nw H v := ∃ p, v = .ref p ∧ H p = none
  nwm e := fun ⟨p, h1, h2⟩ => ⟨p, h1, Evl.fresh_back e h2⟩
  d xs := .list (xs.l.map Dat.d)
  dep := Dat.dep α + 1
  dp := fun ⟨a, vs, h1, h2, _, h4⟩ => by subst h1; exact .lst (SqL.of h2) (dpAll_map h4)
  lay xs := by simp only [PyData.canLay0]; exact canLayAll_map xs.l
  depth xs := by simp only [PyData.depth]; exact Nat.succ_le_succ (depthAll_map xs.l)
  inj xs ys := by
    obtain ⟨x⟩ := xs
    obtain ⟨y⟩ := ys
    simp only [PyData.eqv, Lst.mk.injEq]
    exact eqvAll_map x y
/-- a list or a tuple, read -/
structure Sq (α : Type) where
  l : List α
instance {α : Type} [Frz α] : Enc (Sq α) where
  R K H v xs := ∃ a vs, v = .ref a ∧ (H a = some (.lst vs) ∨ SqT K H a vs) ∧ xs.l.length ≤ LIM ∧ Paired (Enc.R K H) vs xs.l
  mono e := fun ⟨a, vs, h1, h2, h3, h4⟩ => ⟨a, vs, h1, h2.imp (e a _) (Evl.ex_t e), h3, paired_mono (fun _ _ r => Enc.mono e r) h4⟩
  nw _ _ := True
  nwm _ h := h
theorem sq_l {α : Type} [Frz α] {K : Fg} {H : Hp} {v : V} {xs : List α} (h : Enc.R K H v (Lst.mk xs)) : Enc.R K H v (Sq.mk xs) := by
  obtain ⟨a, vs, h1, h2, h3, h4⟩ := h
  exact ⟨a, vs, h1, .inl h2, h3, h4⟩
theorem sq_t {α : Type} [Frz α] {K : Fg} {H : Hp} {v : V} {xs : List α} (h : Enc.R K H v xs) : Enc.R K H v (Sq.mk xs) := by
  obtain ⟨a, vs, h1, h2, h3, h4⟩ := h
  exact ⟨a, vs, h1, .inr h2, h3, h4⟩
mutual
theorem dp_mono {K : Fg} {H H' : Hp} (e : Ex H H') : ∀ (d : PyData) (v : V), Dp K H v d → Dp K H' v d
  | _, _, .non => .non
  | _, _, .bl b => .bl b
  | _, _, .int i => .int i
  | _, _, .str x => .str x
  | .list ds, _, .lst h t => .lst (Evl.ex_l e h) (dpAll_mono e ds _ t)
  | .tuple ds, _, .tup h t => .tup (Evl.ex_t e h) (dpAll_mono e ds _ t)
theorem dpAll_mono {K : Fg} {H H' : Hp} (e : Ex H H') : ∀ (ds : List PyData) (vs : List V), DpAll K H vs ds → DpAll K H' vs ds
  | _, _, .nil => .nil
  | d :: ds, _, .cons r t => .cons (dp_mono e d _ r) (dpAll_mono e ds _ t)
end
instance : Enc PyData where
  R K H v d := Dp K H v d
  mono e h := dp_mono e _ _ h
  nw _ _ := True
  nwm _ h := h

/-! ### the frame's slots -/
structure OwnP where
  P : Fg → Hp → HO → Prop
  keep : ∀ {K : Fg} {H H' : Hp} {o : HO}, Keep H H' → P K H o → P K H' o
  mu : ∀ {K : Fg} {H : Hp} {o : HO}, P K H o → isMut o = true
inductive Ent : Type 1 where
  | any
  | fz {α : Type} [inst : Kp α] (x : α)
  | bs {α : Type} [inst : Enc α] (x : α)
  | ow (n : Option Addr) (o : OwnP)
abbrev Ctx := List Ent
/-- an own list -/
def lstP {α : Type} [Frz α] (xs : List α) : OwnP where
  P K H o := ∃ vs, o = .lst vs ∧ xs.length ≤ LIM ∧ Paired (Enc.R K H) vs xs
  keep e := fun ⟨vs, h1, h2, h3⟩ => ⟨vs, h1, h2, paired_mono (fun _ _ r => Kp.keep e r) h3⟩
  mu := fun ⟨vs, h1, _⟩ => by subst h1; rfl
abbrev Ent.ol {α : Type} [Frz α] (xs : List α) : Ent := .ow none (lstP xs)
/-- an own dict of ints to True -/
def dicP (ks : List Int) : OwnP where
  P K H o := o = .dK (ks.map fun i => (Sum.inl i, V.bl true))
  keep _ h := h
  mu h := by subst h; rfl
def Ent.ok (K : Fg) (B F H : Hp) (ov : Option (Option V)) : Ent → Prop
  | .any => True
  | @Ent.fz α i x => ∃ v, ov = some (some v) ∧ @Enc.R α (@Kp.toEnc α i) K H v x
  | @Ent.bs α i x => ∃ v, ov = some (some v) ∧ @Enc.R α i K B v x
  | .ow n P => ∃ l o, ov = some (some (.ref l)) ∧ (∀ m, n = some m → l = m) ∧ B l = none ∧ F l = none ∧ H l = some o ∧ P.P K H o
structure Kn (K : Fg) (B F H : Hp) (σ : L2.St) (Γ : Ctx) : Prop where
  len : Γ.length ≤ σ.length
  exB : Ex B H
  exF : Ex F H
  at_ : ∀ (i : Nat) (e : Ent), Γ[i]? = some e → e.ok K B F H σ[i]?
  dis : ∀ (i j : Nat) (l : Addr) (n n' : Option Addr) (P P' : OwnP), i ≠ j → Γ[i]? = some (Ent.ow n P) → Γ[j]? = some (Ent.ow n' P') → σ[i]? = some (some (V.ref l)) → σ[j]? ≠ some (some (V.ref l))
theorem Kn.mono {K : Fg} {B F H H' : Hp} {σ : L2.St} {Γ : Ctx} (e : Ex H H') (h : Kn K B F H σ Γ) : Kn K B F H' σ Γ where
  len := h.len
  exB := h.exB.trans e
  exF := h.exF.trans e
  at_ i en q := by
    have z := h.at_ i en q
    cases en with
    | any => trivial
    | fz x =>
      obtain ⟨v, h1, h2⟩ := z
      exact ⟨v, h1, Enc.mono e h2⟩
    | bs x => exact z
    | ow n P =>
      obtain ⟨l, o, h1, hn, h2, h3, h4, h5⟩ := z
      exact ⟨l, o, h1, hn, h2, h3, e l _ h4, P.keep (keep_ex e) h5⟩
  dis := h.dis
/-- an own object changes -/
theorem Kn.mut {K : Fg} {B F H : Hp} {σ : L2.St} {Γ : Ctx} {i : Nat} {n : Option Addr} {P P' : OwnP} {l : Addr} {o' : HO} (h : Kn K B F H σ Γ) (hi : Γ[i]? = some (.ow n P)) (hl : σ[i]? = some (some (.ref l))) (h' : P'.P K (upd H l o') o') : Kn K B F (upd H l o') σ (Γ.set i (.ow n P')) := by
  obtain ⟨l0, o, e1, hn, hB, hF, hH, hP⟩ := h.at_ i _ hi
  rw [hl] at e1
  cases e1
  have kp : Keep H (upd H l o') := keep_upd hH (P.mu hP)
  have hlt : i < Γ.length := (List.getElem?_eq_some_iff.mp hi).1
  refine ⟨by rw [List.length_set]; exact h.len, Evl.Ex.mut h.exB hB, Evl.Ex.mut h.exF hF, fun j en q => ?_, fun j k l' n1 n2 P1 P2 hjk q1 q2 => ?_⟩
  · by_cases e : i = j
    · subst e
      rw [List.getElem?_set_self hlt] at q
      cases q
      exact ⟨l, o', hl, hn, hB, hF, upd_same, h'⟩
    · rw [List.getElem?_set_ne e] at q
      have z := h.at_ j en q
      cases en with
      | any => trivial
      | fz x =>
        obtain ⟨v, h1, h2⟩ := z
        exact ⟨v, h1, Kp.keep kp h2⟩
      | bs x => exact z
      | ow n1 P1 =>
        obtain ⟨l1, o1, h1, hn1, h2, h3, h4, h5⟩ := z
        have ne : l1 ≠ l := fun x => by
          subst x
          exact h.dis i j l1 n n1 P P1 e hi q hl h1
        exact ⟨l1, o1, h1, hn1, h2, h3, by rw [upd_ne ne]; exact h4, P1.keep kp h5⟩
  · have red : ∀ (m : Nat) (nm : Option Addr) (Pm : OwnP), (Γ.set i (.ow n P'))[m]? = some (Ent.ow nm Pm) → ∃ n3 P3, Γ[m]? = some (Ent.ow n3 P3) := fun m nm Pm z => by
      by_cases e : i = m
      · subst e
        exact ⟨n, P, hi⟩
      · rw [List.getElem?_set_ne e] at z
        exact ⟨nm, Pm, z⟩
    obtain ⟨n3, P3, q1⟩ := red _ _ _ q1
    obtain ⟨n4, P4, q2⟩ := red _ _ _ q2
    exact h.dis j k l' n3 n4 P3 P4 hjk q1 q2
theorem get_set_cases {Γ : Ctx} {i j : Nat} {e en : Ent} (q : (Γ.set i e)[j]? = some en) : (i = j ∧ i < Γ.length ∧ en = e) ∨ (i ≠ j ∧ Γ[j]? = some en) := by
  by_cases h : i = j
  · subst h
    by_cases hlt : i < Γ.length
    · rw [List.getElem?_set_self hlt] at q
      exact .inl ⟨rfl, hlt, (Option.some.inj q).symm⟩
    · rw [List.getElem?_eq_none (by rw [List.length_set]; omega)] at q
      cases q
  · rw [List.getElem?_set_ne h] at q
    exact .inr ⟨h, q⟩
/-- a slot is stored, no own object -/
theorem Kn.setE {K : Fg} {B F H : Hp} {σ : L2.St} {Γ : Ctx} {i : Nat} {v : Option V} {e : Ent} (h : Kn K B F H σ Γ) (he : ∀ n P, e ≠ .ow n P) (r : e.ok K B F H (some v)) : Kn K B F H (σ.set i v) (Γ.set i e) := by
  refine ⟨by rw [List.length_set, List.length_set]; exact h.len, h.exB, h.exF, fun j en q => ?_, fun j k l' n1 n2 P1 P2 hjk q1 q2 s1 s2 => ?_⟩
  · rcases get_set_cases q with ⟨rfl, hlt, rfl⟩ | ⟨hne, q⟩
    · rw [List.getElem?_set_self (Nat.lt_of_lt_of_le hlt h.len)]
      exact r
    · rw [List.getElem?_set_ne hne]
      exact h.at_ j en q
  · rcases get_set_cases q1 with ⟨_, _, z⟩ | ⟨e1, q1⟩
    · exact absurd z.symm (he _ _)
    · rcases get_set_cases q2 with ⟨_, _, z⟩ | ⟨e2, q2⟩
      · exact absurd z.symm (he _ _)
      · rw [List.getElem?_set_ne e1] at s1
        rw [List.getElem?_set_ne e2] at s2
        exact h.dis j k l' n1 n2 P1 P2 hjk q1 q2 s1 s2
/-- a slot is stored: frozen data -/
theorem Kn.setF {K : Fg} {B F H : Hp} {σ : L2.St} {Γ : Ctx} {i : Nat} {v : V} {α : Type} [Kp α] {x : α} (h : Kn K B F H σ Γ) (r : Enc.R K H v x) : Kn K B F H (σ.set i (some v)) (Γ.set i (.fz x)) :=
  h.setE (fun _ _ z => nomatch z) ⟨v, rfl, r⟩
/-- a slot is stored: what is not looked at -/
theorem Kn.setA {K : Fg} {B F H : Hp} {σ : L2.St} {Γ : Ctx} {i : Nat} {v : Option V} (h : Kn K B F H σ Γ) : Kn K B F H (σ.set i v) (Γ.set i .any) :=
  h.setE (fun _ _ z => nomatch z) trivial
/-- a slot is stored: a new own object -/
theorem Kn.setO {K : Fg} {B F H H' : Hp} {σ : L2.St} {Γ : Ctx} {i : Nat} {p : Addr} {o : HO} {P : OwnP} (h : Kn K B F H σ Γ) (e0 : Ex H H') (hp : H p = none) (ho : H' p = some o) (r : P.P K H' o) : Kn K B F H' (σ.set i (some (.ref p))) (Γ.set i (.ow none P)) := by
  have hm := h.mono e0
  have hne : ∀ (m : Nat) (nm : Option Addr) (Pm : OwnP), Γ[m]? = some (Ent.ow nm Pm) → σ[m]? ≠ some (some (V.ref p)) := fun m nm Pm z y => by
    obtain ⟨l, o1, h1, _, _, _, h4, _⟩ := h.at_ m _ z
    rw [y] at h1
    cases h1
    rw [hp] at h4
    cases h4
  have hs : ∀ (j : Nat) (l : Addr), i < Γ.length → (σ.set i (some (V.ref p)))[i]? = some (some (V.ref l)) → l = p := fun j l hlt z => by
    rw [List.getElem?_set_self (Nat.lt_of_lt_of_le hlt h.len)] at z
    cases z
    rfl
  refine ⟨by rw [List.length_set, List.length_set]; exact h.len, hm.exB, hm.exF, fun j en q => ?_, fun j k l' n1 n2 P1 P2 hjk q1 q2 s1 s2 => ?_⟩
  · rcases get_set_cases q with ⟨rfl, hlt, rfl⟩ | ⟨hne, q⟩
    · exact ⟨p, o, List.getElem?_set_self (Nat.lt_of_lt_of_le hlt h.len), (fun m z => nomatch z), Evl.fresh_back h.exB hp, Evl.fresh_back h.exF hp, ho, r⟩
    · rw [List.getElem?_set_ne hne]
      exact hm.at_ j en q
  · rcases get_set_cases q1 with ⟨rfl, hlt, z⟩ | ⟨e1, q1⟩
    · rcases get_set_cases q2 with ⟨e, _, _⟩ | ⟨e2, q2⟩
      · exact hjk e
      · rw [List.getElem?_set_ne e2] at s2
        rw [hs 0 l' hlt s1] at s2
        exact hne k _ _ q2 s2
    · rw [List.getElem?_set_ne e1] at s1
      rcases get_set_cases q2 with ⟨rfl, hlt, z⟩ | ⟨e2, q2⟩
      · rw [hs 0 l' hlt s2] at s1
        exact hne j _ _ q1 s1
      · rw [List.getElem?_set_ne e2] at s2
        exact h.dis j k l' n1 n2 P1 P2 hjk q1 q2 s1 s2
/-- an own object goes from slot j to slot i -/
theorem Kn.move {K : Fg} {B F H : Hp} {σ : L2.St} {Γ : Ctx} {i j : Nat} {n : Option Addr} {l : Addr} {P : OwnP} (h : Kn K B F H σ Γ) (hij : i ≠ j) (hj : Γ[j]? = some (.ow n P)) (hl : σ[j]? = some (some (.ref l))) : Kn K B F H (σ.set i (some (.ref l))) ((Γ.set j .any).set i (.ow n P)) := by
  obtain ⟨l0, o, e1, hn, hB, hF, hH, hP⟩ := h.at_ j _ hj
  rw [hl] at e1
  cases e1
  have red : ∀ (m : Nat) (en : Ent), (Γ.set j .any)[m]? = some en → en = .any ∨ (j ≠ m ∧ Γ[m]? = some en) := fun m en z => by
    rcases get_set_cases z with ⟨_, _, e⟩ | ⟨e, z⟩
    · exact .inl e
    · exact .inr ⟨e, z⟩
  refine ⟨by rw [List.length_set, List.length_set, List.length_set]; exact h.len, h.exB, h.exF, fun k en q => ?_, fun k m l' n1 n2 P1 P2 hjk q1 q2 s1 s2 => ?_⟩
  · rcases get_set_cases q with ⟨rfl, hlt, rfl⟩ | ⟨hne, q⟩
    · rw [List.length_set] at hlt
      exact ⟨l, o, List.getElem?_set_self (Nat.lt_of_lt_of_le hlt h.len), hn, hB, hF, hH, hP⟩
    · rw [List.getElem?_set_ne hne]
      rcases red _ _ q with e | ⟨_, q⟩
      · subst e
        trivial
      · exact h.at_ k en q
  · have own : ∀ (m : Nat) (l' : Addr) (n1 : Option Addr) (P1 : OwnP), i ≠ m → (Γ.set j .any)[m]? = some (Ent.ow n1 P1) → (σ.set i (some (V.ref l)))[m]? = some (some (V.ref l')) → j ≠ m ∧ Γ[m]? = some (Ent.ow n1 P1) ∧ σ[m]? = some (some (V.ref l')) := fun m l' n1 P1 e1 q1 s1 => by
      rw [List.getElem?_set_ne e1] at s1
      rcases red _ _ q1 with e | ⟨e, q⟩
      · cases e
      · exact ⟨e, q, s1⟩
    have at_i : i < Γ.length → (σ.set i (some (V.ref l)))[i]? = some (some (V.ref l')) → l' = l := fun hlt z => by
      rw [List.getElem?_set_self (Nat.lt_of_lt_of_le hlt h.len)] at z
      cases z
      rfl
    rcases get_set_cases q1 with ⟨rfl, hlt, z⟩ | ⟨e1, q1⟩
    · rcases get_set_cases q2 with ⟨e, _, _⟩ | ⟨e2, q2⟩
      · exact hjk e
      · rw [List.length_set] at hlt
        obtain ⟨a, b, c⟩ := own m l' n2 P2 e2 q2 s2
        rw [at_i hlt s1] at c
        exact h.dis j m l n n2 P P2 a hj b hl c
    · obtain ⟨a, b, c⟩ := own k l' n1 P1 e1 q1 s1
      rcases get_set_cases q2 with ⟨rfl, hlt, z⟩ | ⟨e2, q2⟩
      · rw [List.length_set] at hlt
        rw [at_i hlt s2] at c
        exact h.dis j k l n n1 P P1 a hj b hl c
      · obtain ⟨a2, b2, c2⟩ := own m l' n2 P2 e2 q2 s2
        exact h.dis k m l' n1 n2 P1 P2 hjk b b2 c c2
/-- less is known -/
inductive Le : Ctx → Ctx → Prop
  | stop {Γ : Ctx} : Le Γ []
  | same {e : Ent} {Γ Δ : Ctx} : Le Γ Δ → Le (e :: Γ) (e :: Δ)
  | drop {e : Ent} {Γ Δ : Ctx} : Le Γ Δ → Le (e :: Γ) (.any :: Δ)
theorem Le.refl : ∀ Γ : Ctx, Le Γ Γ
  | [] => .stop
  | _ :: Γ => .same (Le.refl Γ)
theorem Le.len {Γ Δ : Ctx} (h : Le Γ Δ) : Δ.length ≤ Γ.length := by
  induction h with
  | stop => exact Nat.zero_le _
  | same _ ih => exact Nat.succ_le_succ ih
  | drop _ ih => exact Nat.succ_le_succ ih
theorem Le.at {Γ Δ : Ctx} (h : Le Γ Δ) : ∀ (i : Nat) (e : Ent), Δ[i]? = some e → e = .any ∨ Γ[i]? = some e := by
  induction h with
  | stop =>
    intro i e z
    simp at z
  | same _ ih =>
    intro i e z
    cases i with
    | zero => exact .inr z
    | succ i => simpa using ih i e (by simpa using z)
  | drop _ ih =>
    intro i e z
    cases i with
    | zero =>
      simp at z
      exact .inl z.symm
    | succ i => simpa using ih i e (by simpa using z)
theorem Kn.le {K : Fg} {B F H : Hp} {σ : L2.St} {Γ Δ : Ctx} (h : Kn K B F H σ Γ) (l : Le Γ Δ) : Kn K B F H σ Δ where
  len := Nat.le_trans l.len h.len
  exB := h.exB
  exF := h.exF
  at_ i e q := by
    rcases l.at i e q with z | z
    · subst z
      trivial
    · exact h.at_ i e z
  dis i j l' n n' P P' hij q1 q2 := by
    rcases l.at i _ q1 with z | z
    · cases z
    · rcases l.at j _ q2 with y | y
      · cases y
      · exact h.dis i j l' n n' P P' hij z y
/-! ### frames -/
/-- all that never changes, and what F knows -/
def frz (F H : Hp) : Hp := fun a => match F a with
  | some o => some o
  | none => match H a with
    | some o => if isMut o then none else some o
    | none => none
theorem frz_ex {F H : Hp} (e : Ex F H) : Ex (frz F H) H := fun a o h => by
  unfold frz at h
  cases hF : F a with
  | some u =>
    rw [hF] at h
    cases h
    exact e a _ hF
  | none =>
    rw [hF] at h
    cases hH : H a with
    | none =>
      rw [hH] at h
      cases h
    | some u =>
      rw [hH] at h
      have h2 : (if isMut u = true then none else some u) = some o := h
      split at h2
      · cases h2
      · exact h2
theorem frz_F {F H : Hp} : Ex F (frz F H) := fun a o h => by
  unfold frz
  rw [h]
theorem frz_keep {F H : Hp} (e : Ex F H) : Keep H (frz F H) := fun a o h m => by
  unfold frz
  cases hF : F a with
  | some u => exact (e a _ hF).symm.trans h
  | none =>
    rw [h]
    show (if isMut o = true then none else some o) = some o
    rw [m]
    rfl
theorem frz_none {F H : Hp} {l : Addr} {o : HO} (hF : F l = none) (h : H l = some o) (m : isMut o = true) : frz F H l = none := by
  unfold frz
  rw [hF, h]
  show (if isMut o = true then none else some o) = none
  rw [m]
  rfl
/-- another frame -/
theorem Kn.frame {K : Fg} {B F F' H : Hp} {σ : L2.St} {Γ : Ctx} (h : Kn K B F H σ Γ) (e : Ex F' H) (hn : ∀ l o, B l = none → F l = none → H l = some o → isMut o = true → (∃ (i : Nat) (n : Option Addr) (P : OwnP), Γ[i]? = some (Ent.ow n P) ∧ σ[i]? = some (some (V.ref l))) → F' l = none) : Kn K B F' H σ Γ where
  len := h.len
  exB := h.exB
  exF := e
  at_ i en q := by
    have z := h.at_ i en q
    cases en with
    | any => trivial
    | fz x => exact z
    | bs x => exact z
    | ow n P =>
      obtain ⟨l, o, h1, hm, h2, h3, h4, h5⟩ := z
      exact ⟨l, o, h1, hm, h2, hn l o h2 h3 h4 (P.mu h5) ⟨i, n, P, q, h1⟩, h4, h5⟩
  dis := h.dis
theorem Kn.frz {K : Fg} {B F H : Hp} {σ : L2.St} {Γ : Ctx} (h : Kn K B F H σ Γ) : Kn K B (frz F H) H σ Γ := h.frame (frz_ex h.exF) fun _ _ _ h2 h3 m _ => frz_none h2 h3 m
theorem Kn.unframe {K : Fg} {B F F' H : Hp} {σ : L2.St} {Γ : Ctx} (h : Kn K B F' H σ Γ) (e : Ex F F') : Kn K B F H σ Γ where
  len := h.len
  exB := h.exB
  exF := e.trans h.exF
  at_ i en q := by
    have z := h.at_ i en q
    cases en with
    | any => trivial
    | fz x => exact z
    | bs x => exact z
    | ow n P =>
      obtain ⟨l, o, h1, hm, h2, h3, h4, h5⟩ := z
      exact ⟨l, o, h1, hm, h2, Evl.fresh_back e h3, h4, h5⟩
  dis := h.dis
end Dy
/-! ## Dl2 -/
namespace Dy
open PySem L2 PyProof.Rows
/-! ### operations that take either kind -/
abbrev R2 := V →
        V → Hp → VK → Prop
def orR (r r' : R2) : R2 := fun x y H Q => r x y H Q ∨ r' x y H Q
section
variable {X : Cx}
theorem orOp {f : Value → Value → Sem Value} {r r' : R2} (h : OpR X f r) (h' : OpR X f r') : OpR X f (orR r r') := by
  intro pins s σ H x
          y v u Q I rx ry q
  rcases q with q | q
  · exact h pins s σ H
          x y v u Q I rx ry q
  · exact h' pins s σ
          H x y v u Q I rx ry q
def rAddU (K : Fg) : R2 := orR (rI0 fun i j => .int (i + j)) (orR (rCatA K) rCat)
theorem op_addU : OpR X (binaryOp .Add) (rAddU X.K) := orOp op_add (orOp op_catA op_cat)
/-- * of two factors of together less than 100 million bits -/
def CMulX (i j : Int) : Prop := i.natAbs.log2 + j.natAbs.log2 < 100000000
theorem CMulX.ok {i j : Int} (h
        : CMulX i j) : IntMulOk i j := by
  have b : ∀ x : Int, Builtin.Int.intBits
          x ≤ x.natAbs.log2 + 1 := fun x => by
    unfold Builtin.Int.intBits
    split <;> omega
  have h1 := b i
  have h2 := b j
  have h3 : i.natAbs.log2 + j.natAbs.log2 < 100000000 := h
  have e : bitsLine =
          134217728 := by decide
  unfold IntMulOk
  intro z
  rw [Bool.and_eq_true] at z
  have z2 := z.2
  unfold
          Builtin.Int.intTooBig at z2
  have z3 :=
          of_decide_eq_true z2
  rw [e] at z3
  omega
theorem op_mulX : OpR X (binaryOp .Mult) (rI CMulX fun i j =>
        .int (i * j)) := opI fun _ _ _ _ _ _ _ hc q => mul_int q hc.ok
def rMulU (K : Fg) : R2 := orR (rI CMulX fun i j => .int (i * j)) (rRepT K)
theorem op_mulU : OpR X (binaryOp .Mult) (rMulU X.K) := orOp op_mulX op_repT
def rLeU (K : Fg) : R2 := orR (rI0 fun i j => .bl (decide (i ≤ j))) (rLeT K)
theorem op_leU (hu : X.A.units < cLine) : OpR X (compareOp .LtE) (rLeU X.K) := orOp op_le (op_leT hu)
/-- x in c, c a list or a tuple of data -/
def rInU (K : Fg) (neg : Bool) : R2 := fun x y H Q => ∃ d ds, Dp K H x d ∧ (Dp K H y (.list ds) ∨ Dp K H y (.tuple ds)) ∧ SeqAt.shaped d = true ∧ SeqAt.shaped (.list ds) = true ∧ Q (.bl (if neg then !ds.any fun z => PyData.eqv z d else ds.any fun z => PyData.eqv z d)) H
theorem op_inU (hu : X.A.units + 65 < cLine) : OpR X (compareOp .In) (rInU X.K false) := by
  intro pins s σ H x
          y v u Q I rx ry h
  obtain ⟨d, ds, hd,
          he, sd, se, q⟩ := h
  obtain ⟨as, r1⟩ :=
          Dp.reads I d x v hd rx
  rcases he with he | he
  · obtain ⟨bs, r2⟩ := Dp.reads I (.list ds) y u he ry
    exact SeqAt.in_list_reads r2 r1 (SeqAt.canLay_of_shaped se)
            (SeqAt.canLay_of_shaped sd) (room_in_shaped sd hu) ⟨.bl _, H, I, rfl, q⟩
  · obtain ⟨bs, r2⟩ := Dp.reads I (.tuple ds) y u he ry
    exact SeqAt.in_tuple_reads r2 r1 (SeqAt.canLay_of_shaped se) (SeqAt.canLay_of_shaped sd) (room_in_shaped sd hu) ⟨.bl _, H, I, rfl, q⟩
theorem op_notInU (hu : X.A.units + 65 < cLine) : OpR X (compareOp .NotIn) (rInU X.K true) := by
  intro pins s σ H x
          y v u Q I rx ry h
  obtain ⟨d, ds, hd,
          he, sd, se, q⟩ := h
  obtain ⟨as, r1⟩ :=
          Dp.reads I d x v hd rx
  rcases he with he | he
  · obtain ⟨bs, r2⟩ := Dp.reads I (.list ds) y u he ry
    exact SeqAt.notIn_list_reads r2 r1 (SeqAt.canLay_of_shaped se)
            (SeqAt.canLay_of_shaped sd) (room_in_shaped sd hu) ⟨.bl _, H, I, rfl, q⟩
  · obtain ⟨bs, r2⟩ := Dp.reads I (.tuple ds) y u he ry
    exact SeqAt.notIn_tuple_reads r2 r1 (SeqAt.canLay_of_shaped se) (SeqAt.canLay_of_shaped sd) (room_in_shaped sd hu) ⟨.bl _, H, I, rfl, q⟩
def rIxU (K : Fg) : R2 := orR (rIxL K) (rIxT K)
theorem ix_U : IxR X (rIxU X.K) := IxR.or ix_list ix_tup
def rSlU (K : Fg) : V → Option Int → Option Int → Hp → VK → Prop := fun x lo hi H Q => rSlL K x lo hi H Q ∨ rSlA K x lo hi H Q
theorem sl_U : L2.SlR X (rSlU X.K) := L2.SlR.or sl_list sl_tupA
def rIsU : R2 := orR (fun x y H Q => y = .non ∧ Q (.bl (decide (x = .non))) H) (fun x y H Q => ∃ a b, x = .bl a ∧ y = .bl b ∧ Q (.bl (decide (a = b))) H)
def rIsNotU : R2 := orR (fun x y H Q => y = .non ∧ Q (.bl (!decide (x = .non))) H) (fun x y H Q => ∃ a b, x = .bl a ∧ y = .bl b ∧ Q (.bl (!decide (a = b))) H)
theorem op_isU : OpR X (compareOp .Is) rIsU := orOp op_isN op_is_bl
theorem op_isNotU : OpR X (compareOp .IsNot) rIsNotU := orOp op_notN op_isnot_bl
/-- a walk over a list or a tuple -/
def iSeq (K : Fg) (tl : TE) : TI := fun σ H R => tl σ H fun x H1 => ∃ a, x = .ref a ∧ (((∃ xs, SqL K H1 a xs) ∧ R (Itl K a) H1) ∨ ((∃ xs, SqT K H1 a xs) ∧ R (Itt K a) H1))
theorem pi_seq {tg l : Expr} {tl : TE} (hl : PE X l tl) : PI X tg l (iSeq X.K tl) := by
  refine ⟨fun pins
          s σ H R I h => ?_⟩
  refine thn (hl.run pins s σ H _ I h)
          fun v s1 ⟨x, H1, I1, r1, q1⟩ => ?_
  obtain ⟨a, e, q1⟩ := q1
  subst e
  cases r1
  rcases q1 with ⟨⟨xs, hq⟩, q⟩ | ⟨⟨xs, hq⟩, q⟩
  · obtain ⟨its, rv, p, hz⟩ := I1.list hq
    refine wpAny_pyIter_list
            p.isList ?_
    refine ⟨s1.heap.objs.size, [s1.heap.objs.size], _, _, H1, rfl, I1.kept (t' := s1.toks) fun b o e =>
            Heap.get?_push_of_some _ e, turn_list a _, ⟨_, Heap.get?_push_size _ rfl, rfl, rfl⟩, fun b hb => ?_, q⟩
    have e : b = s1.heap.objs.size
            := by simpa using hb
    subst e
    exact I1.fpOk (Nat.le_refl _)
            (I1.hok.fresh (Nat.le_refl _))
  · obtain ⟨its, rv, p, hz⟩ := I1.tuple hq
    refine wpAny_pyIter_tuple (show
            s1.heap.IsTuple a its.toArray from p) ?_
    refine ⟨s1.heap.objs.size, [s1.heap.objs.size], _, _, H1, rfl, I1.kept (t' := s1.toks) fun b o e =>
            Heap.get?_push_of_some _ e, turn_tuple a _, ⟨_, Heap.get?_push_size _ rfl, rfl, rfl⟩, fun b hb => ?_, q⟩
    have e : b = s1.heap.objs.size
            := by simpa using hb
    subst e
    exact I1.fpOk (Nat.le_refl _)
            (I1.hok.fresh (Nat.le_refl _))
end

/-! ### what
        evaluates to what -/
section
variable {α β γ : Type}
def Ev (K : Fg) [Enc α] (te : TE) (Γ : Ctx) (x : α) : Prop := ∀ B F σ H, Kn K B F H σ Γ → ∀ Q : VK, (∀ v H', Ex H H' → Enc.R K H' v x → Q v H') → te σ H Q
def EvN (K : Fg) [Enc α] (te : TE) (Γ : Ctx) (x : α) : Prop := ∀ B F σ H, Kn K B F H σ Γ → ∀ Q : VK, (∀ v H', Ex H H' → Enc.R K H' v x → Enc.nw α H v → Q v H') → te σ H Q
def EvT (K : Fg) (tt : TT) (Γ : Ctx) (b : Bool) : Prop := ∀ B F σ H, Kn K B F H σ Γ → ∀ Q : Bool → Hp → Prop, (∀ H', Ex H H' → Q b H') → tt σ H Q
def EvA (K : Fg) (ta : TA) (Γ : Ctx) (P : List V → Hp → Prop) : Prop := ∀ B F σ H, Kn K B F H σ Γ → ∀ Q : List V → Hp → Prop, (∀ vs H', Ex H H' → P vs H' → Q vs H') → ta σ H Q
def EvO (K : Fg) (to : TO) (Γ : Ctx) (o : Option Int) : Prop := ∀ B F σ H, Kn K B F H σ Γ → ∀ Q : Option Int → Hp → Prop, (∀ H', Ex H H' → Q o H') → to σ H Q
/-- own objects may change -/
def EvE (K : Fg) [Enc α] (te : TE) (Γ : Ctx) (x : α) (Γ' : Ctx) : Prop := ∀ B F σ H, Kn K B F H σ Γ → ∀ Q : VK, (∀ v H', Kn K B F H' σ Γ' → Enc.R K H' v x → Q v H') → te σ H Q
def PNil : List V → Hp → Prop := fun vs _ => vs = []
def PCons (K : Fg) [Enc α] (x : α) (P : List V → Hp → Prop) : List V → Hp → Prop := fun vs H => ∃ v r, vs = v :: r ∧ Enc.R K H v x ∧ P r H
/-- a promise: values that stand for data in, one out, what stood stands -/
def fnSp (K : Fg) [Enc γ] (P : List V → Hp → γ → Prop) : Sp := fun vs H Q _ => ∃ y, P vs H y ∧ ∀ v H', Ex H H' → Enc.R K H' v y → Enc.nw γ H v → Q v H'
end
section
variable {α β γ : Type} {K : Fg} {ta tb tc te : TE} {tt tu : TT} {Γ Γ' : Ctx} {a b : Bool} {i j : Int}
theorem EvN.ev [Enc α] {x : α} (h : EvN K te Γ x) : Ev K te Γ x := fun B F σ H k Q q => h B F σ H k Q fun v H' e r _ => q v H' e r
theorem Ev.new [Kp α] {x : α} (h : Ev K te Γ x) : EvN K te Γ x := fun B F σ H k Q q => h B F σ H k Q fun v H' e r => q v H' e r (Kp.nwT _ _)
theorem Ev.is [Enc α] {x y : α} (h : Ev K te Γ x) (e : x = y) : Ev K te Γ y := e ▸ h
theorem EvN.is [Enc α] {x y : α} (h : EvN K te Γ x) (e : x = y) : EvN K te Γ y := e ▸ h
theorem EvT.is (h : EvT K tt Γ a) (e : a = b) : EvT K tt Γ b := e ▸ h
theorem Ev.pure [Enc α] {x : α} (h : Ev K te Γ x) : EvE K te Γ x Γ := fun B F σ H k Q q => h B F σ H k Q fun v H' e r => q v H' (k.mono e) r
theorem Ev.le [Enc α] {x : α} {Δ : Ctx} (h : Ev K te Δ x) (l : Le Γ Δ) : Ev K te Γ x := fun B F σ H k => h B F σ H (k.le l)
theorem Ev.sqL [Frz α] {xs : List α} (h : Ev K te Γ (Lst.mk xs)) : Ev K te Γ (Sq.mk xs) := fun B F σ H k Q q => h B F σ H k Q fun v H' e r => q v H' e (sq_l r)
theorem Ev.sqT [Frz α] {xs : List α} (h : Ev K te Γ xs) : Ev K te Γ (Sq.mk xs) := fun B F σ H k Q q => h B F σ H k Q fun v H' e r => q v H' e (sq_t r)
theorem Ev.dat [Dat α] {x : α} (h : Ev K te Γ x) : Ev K te Γ (Dat.d x) := fun B F σ H k Q q => h B F σ H k Q fun v H' e r => q v H' e (Dat.dp r)
/-- names -/
theorem ev_fz [Kp α] {n : Nat} {x : α} (h : Γ[n]? = some (.fz x)) : Ev K (tVar n) Γ x := fun B F σ H k Q q => by
  obtain ⟨v, h1, h2⟩ := k.at_ n _ h
  exact ⟨v, h1, q v H (Evl.Ex.refl H) h2⟩
theorem ev_bs [Enc α] {n : Nat} {x : α} (h : Γ[n]? = some (.bs x)) : Ev K (tVar n) Γ x := fun B F σ H k Q q => by
  obtain ⟨v, h1, h2⟩ := k.at_ n _ h
  exact ⟨v, h1, q v H (Evl.Ex.refl H) (Enc.mono k.exB h2)⟩
theorem lstP_R [Frz α] {xs : List α} {H : Hp} {l : Addr} {o : HO} (h : H l = some o) (p : (lstP xs).P K H o) : Enc.R K H (.ref l) (Lst.mk xs) := by
  obtain ⟨vs, rfl, h2, h3⟩ := p
  exact ⟨l, vs, rfl, h, h2, h3⟩
theorem ev_ow [Frz α] {n : Nat} {m : Option Addr} {xs : List α} (h : Γ[n]? = some (.ow m (lstP xs))) : Ev K (tVar n) Γ (Lst.mk xs) := fun B F σ H k Q q => by
  obtain ⟨l, o, h1, _, _, _, h4, h5⟩ := k.at_ n _ h
  exact ⟨.ref l, h1, q _ H (Evl.Ex.refl H) (lstP_R h4 h5)⟩
theorem ev_int : Ev K (tC (.int i)) Γ i := fun B F σ H _ Q q => q _ H (Evl.Ex.refl H) rfl
theorem ev_bl : Ev K (tC (.bl a)) Γ a := fun B F σ H _ Q q => q _ H (Evl.Ex.refl H) rfl
theorem ev_non : Ev K (tC .non) Γ () := fun B F σ H _ Q q => q _ H (Evl.Ex.refl H) rfl
theorem ev_nonO [Frz α] : Ev K (tC .non) Γ (none : Option (List α)) := fun B F σ H _ Q q => q _ H (Evl.Ex.refl H) rfl
theorem Ev.some_ [Frz α] {xs : List α} (h : Ev K te Γ xs) : Ev K te Γ (some xs) := fun B F σ H k Q q => h B F σ H k Q fun v H' e r => q v H' e r
/-- two operands -/
theorem ev_op2 [Enc α] [Enc β] [Enc γ] {r : R2} {x : α} {y : β} {z : γ} (ha : Ev K ta Γ x) (hb : Ev K tb Γ y) (hr : ∀ v u H (Q : VK), Enc.R K H v x → Enc.R K H u y → (∀ w H', Ex H H' → Enc.R K H' w z → Q w H') → r v u H Q) : Ev K (tOp r ta tb) Γ z := fun B F σ H k Q q =>
  ha B F σ H k _ fun v H1 e1 r1 => hb B F σ H1 (k.mono e1) _ fun u H2 e2 r2 => hr v u H2 Q (Enc.mono e2 r1) r2 fun w H' e3 r3 => q w H' ((e1.trans e2).trans e3) r3
theorem ev_op2N [Enc α] [Enc β] [Enc γ] {r : R2} {x : α} {y : β} {z : γ} (ha : Ev K ta Γ x) (hb : Ev K tb Γ y) (hr : ∀ v u H (Q : VK), Enc.R K H v x → Enc.R K H u y → (∀ w H', Ex H H' → Enc.R K H' w z → Enc.nw γ H w → Q w H') → r v u H Q) : EvN K (tOp r ta tb) Γ z := fun B F σ H k Q q =>
  ha B F σ H k _ fun v H1 e1 r1 => hb B F σ H1 (k.mono e1) _ fun u H2 e2 r2 => hr v u H2 Q (Enc.mono e2 r1) r2 fun w H' e3 r3 n3 => q w H' ((e1.trans e2).trans e3) r3 (Enc.nwm (e1.trans e2) n3)
theorem ev_addI (ha : Ev K ta Γ i) (hb : Ev K tb Γ j) : Ev K (tOp (rAddU K) ta tb) Γ (i + j) := ev_op2 ha hb fun v u H Q r1 r2 q => .inl ⟨i, j, r1, r2, q _ H (Evl.Ex.refl H) rfl⟩
theorem ev_addT [Frz α] {xs ys : List α} (ha : Ev K ta Γ xs) (hb : Ev K tb Γ ys) (hl : xs.length + ys.length ≤ LIM) : Ev K (tOp (rAddU K) ta tb) Γ (xs ++ ys) := ev_op2 ha hb fun v u H Q r1 r2 q => by
  obtain ⟨a1, vs, rfl, h2, h3, h4⟩ := r1
  obtain ⟨b1, us, rfl, h6, h7, h8⟩ := r2
  have e1 := paired_len h4
  have e2 := paired_len h8
  refine .inr (.inl ⟨a1, b1, vs, us, rfl, rfl, h2, h6, lim_le (by omega), fun z => ?_, fun _ z => ?_, fun _ _ p hp => ?_⟩)
  · subst z
    cases h4
    exact q _ H (Evl.Ex.refl H) ⟨b1, us, rfl, h6, h7, h8⟩
  · subst z
    cases h8
    exact q _ H (Evl.Ex.refl H) ⟨a1, vs, rfl, h2, by rw [List.append_nil]; exact h3, by rw [List.append_nil]; exact h4⟩
  · exact q _ _ (Evl.Ex.new hp) ⟨p, vs ++ us, rfl, SqT.of upd_same, by rw [List.length_append]; exact hl, paired_append (paired_mono (fun _ _ r => Enc.mono (Evl.Ex.new hp) r) h4) (paired_mono (fun _ _ r => Enc.mono (Evl.Ex.new hp) r) h8)⟩
theorem ev_addL [Frz α] {xs ys : List α} (ha : Ev K ta Γ (Lst.mk xs)) (hb : Ev K tb Γ (Lst.mk ys)) (hl : xs.length + ys.length ≤ LIM) : EvN K (tOp (rAddU K) ta tb) Γ (Lst.mk (xs ++ ys)) := ev_op2N ha hb fun v u H Q r1 r2 q => by
  obtain ⟨a1, vs, rfl, h2, h3, h4⟩ := r1
  obtain ⟨b1, us, rfl, h6, h7, h8⟩ := r2
  have e1 := paired_len h4
  have e2 := paired_len h8
  simp only at h3 h7 h4 h8 e1 e2
  exact .inr (.inr ⟨a1, b1, vs, us, rfl, rfl, h2, h6, lim_le (by omega), fun p hp => q _ _ (Evl.Ex.new hp) ⟨p, vs ++ us, rfl, upd_same, by rw [List.length_append]; exact hl, paired_append (paired_mono (fun _ _ r => Enc.mono (Evl.Ex.new hp) r) h4) (paired_mono (fun _ _ r => Enc.mono (Evl.Ex.new hp) r) h8)⟩ ⟨p, rfl, hp⟩⟩)
theorem ev_sub (ha : Ev K ta Γ i) (hb : Ev K tb Γ j) : Ev K (tOp (rI0 fun i j => .int (i - j)) ta tb) Γ (i - j) := ev_op2 ha hb fun v u H Q r1 r2 q => ⟨i, j, r1, r2, q _ H (Evl.Ex.refl H) rfl⟩
theorem ev_mulI (ha : Ev K ta Γ i) (hb : Ev K tb Γ j) (hc : CMulX i j) : Ev K (tOp (rMulU K) ta tb) Γ (i * j) := ev_op2 ha hb fun v u H Q r1 r2 q => .inl ⟨i, j, r1, r2, hc, q _ H (Evl.Ex.refl H) rfl⟩
theorem ev_mod (ha : Ev K ta Γ i) (hb : Ev K tb Γ j) (hj : j ≠ 0) : Ev K (tOp (rI (fun _ j => j ≠ 0) fun i j => .int (i.fmod j)) ta tb) Γ (i.fmod j) := ev_op2 ha hb fun v u H Q r1 r2 q => ⟨i, j, r1, r2, hj, q _ H (Evl.Ex.refl H) rfl⟩
theorem ev_fdiv (ha : Ev K ta Γ i) (hb : Ev K tb Γ j) (hj : CDivW i j) : Ev K (tOp (rI CDivW fun i j => .int (i / j)) ta tb) Γ (i / j) := ev_op2 ha hb fun v u H Q r1 r2 q => ⟨i, j, r1, r2, hj, q _ H (Evl.Ex.refl H) rfl⟩
theorem ev_shl (ha : Ev K ta Γ i) (hb : Ev K tb Γ j) (hj : CPow i j) : Ev K (tOp (rI CPow fun i j => .int (i * 2 ^ j.toNat)) ta tb) Γ (i * 2 ^ j.toNat) := ev_op2 ha hb fun v u H Q r1 r2 q => ⟨i, j, r1, r2, hj, q _ H (Evl.Ex.refl H) rfl⟩
theorem ev_lt (ha : Ev K ta Γ i) (hb : Ev K tb Γ j) : Ev K (tOp (rI0 fun i j => .bl (decide (i < j))) ta tb) Γ (decide (i < j)) := ev_op2 ha hb fun v u H Q r1 r2 q => ⟨i, j, r1, r2, q _ H (Evl.Ex.refl H) rfl⟩
theorem ev_gt (ha : Ev K ta Γ i) (hb : Ev K tb Γ j) : Ev K (tOp (rI0 fun i j => .bl (decide (j < i))) ta tb) Γ (decide (j < i)) := ev_op2 ha hb fun v u H Q r1 r2 q => ⟨i, j, r1, r2, q _ H (Evl.Ex.refl H) rfl⟩
theorem ev_ge (ha : Ev K ta Γ i) (hb : Ev K tb Γ j) : Ev K (tOp (rI0 fun i j => .bl (decide (j ≤ i))) ta tb) Γ (decide (j ≤ i)) := ev_op2 ha hb fun v u H Q r1 r2 q => ⟨i, j, r1, r2, q _ H (Evl.Ex.refl H) rfl⟩
theorem ev_leI (ha : Ev K ta Γ i) (hb : Ev K tb Γ j) : Ev K (tOp (rLeU K) ta tb) Γ (decide (i ≤ j)) := ev_op2 ha hb fun v u H Q r1 r2 q => .inl ⟨i, j, r1, r2, q _ H (Evl.Ex.refl H) rfl⟩
theorem ev_eq [Dat α] [DecidableEq α] {x y : α} (ha : Ev K ta Γ x) (hb : Ev K tb Γ y) (hd : Dat.dep α ≤ 64 := by decide) : Ev K (tOp (rEqD K) ta tb) Γ (decide (x = y)) := ev_op2 ha hb fun v u H Q r1 r2 q => ⟨Dat.d x, Dat.d y, Dat.dp r1, Dat.dp r2, Dat.shaped x hd, Dat.shaped y hd, q _ H (Evl.Ex.refl H) (by rw [Dat.eqv]; exact rfl)⟩
theorem ev_ne [Dat α] [DecidableEq α] {x y : α} (ha : Ev K ta Γ x) (hb : Ev K tb Γ y) (hd : Dat.dep α ≤ 64 := by decide) : Ev K (tOp (rNeD K) ta tb) Γ (!decide (x = y)) := ev_op2 ha hb fun v u H Q r1 r2 q => ⟨Dat.d x, Dat.d y, Dat.dp r1, Dat.dp r2, Dat.shaped x hd, Dat.shaped y hd, q _ H (Evl.Ex.refl H) (by rw [Dat.eqv]; exact rfl)⟩
theorem any_eqv [Dat α] [DecidableEq α] (x : α) : ∀ xs : List α, (xs.map Dat.d).any (fun z => PyData.eqv z (Dat.d x)) = decide (x ∈ xs)
  | [] => by simp
  | y :: ys => by
    rw [List.map_cons, List.any_cons, any_eqv x ys, Dat.eqv]
    by_cases h : y = x
    · subst h
      simp
    · have h2 : ¬ x = y := fun z => h z.symm
      simp [h, h2]
theorem sq_dp [Frz α] {H : Hp} {v : V} {xs : List α} (h : Enc.R K H v (Sq.mk xs)) : Dp K H v (.list (xs.map Dat.d)) ∨ Dp K H v (.tuple (xs.map Dat.d)) := by
  obtain ⟨a1, vs, rfl, h2, h3, h4⟩ := h
  rcases h2 with h2 | h2
  · exact .inl (.lst (SqL.of h2) (dpAll_map h4))
  · exact .inr (.tup h2 (dpAll_map h4))
theorem ev_in [Frz α] [DecidableEq α] {x : α} {xs : List α} (ha : Ev K ta Γ x) (hb : Ev K tb Γ (Sq.mk xs)) (hd : Dat.dep α + 1 ≤ 64 := by decide) : Ev K (tOp (rInU K false) ta tb) Γ (decide (x ∈ xs)) := ev_op2 ha hb fun v u H Q r1 r2 q =>
  ⟨Dat.d x, xs.map Dat.d, Dat.dp r1, sq_dp r2, Dat.shaped x (by omega), Dat.shaped (Lst.mk xs) hd, q _ H (Evl.Ex.refl H) (by rw [any_eqv]; exact rfl)⟩
theorem ev_notIn [Frz α] [DecidableEq α] {x : α} {xs : List α} (ha : Ev K ta Γ x) (hb : Ev K tb Γ (Sq.mk xs)) (hd : Dat.dep α + 1 ≤ 64 := by decide) : Ev K (tOp (rInU K true) ta tb) Γ (!decide (x ∈ xs)) := ev_op2 ha hb fun v u H Q r1 r2 q =>
  ⟨Dat.d x, xs.map Dat.d, Dat.dp r1, sq_dp r2, Dat.shaped x (by omega), Dat.shaped (Lst.mk xs) hd, q _ H (Evl.Ex.refl H) (by rw [any_eqv]; exact rfl)⟩
/-- xs[i], 0 ≤ i or from behind -/
theorem ixN_len {vs : List V} {xs : List α} {i : Int} (h : vs.length = xs.length) : ixN vs.length i = ixN xs.length i := by rw [h]
theorem ev_ix [Frz α] {xs : List α} {x : α} (ha : Ev K ta Γ (Sq.mk xs)) (hb : Ev K tb Γ i) (hx : (ixN xs.length i).bind (fun n => xs[n]?) = some x) : Ev K (tOp (rIxU K) ta tb) Γ x := ev_op2 ha hb fun v u H Q r1 r2 q => by
  obtain ⟨a1, vs, rfl, h2, h3, h4⟩ := r1
  have e1 := paired_len h4
  obtain ⟨n, hn, hx2⟩ := Option.bind_eq_some_iff.mp hx
  obtain ⟨w, hw, rw_⟩ := paired_get' h4 hx2
  have ha : atI vs i = some w := by
    unfold atI
    rw [ixN_len e1, hn]
    exact hw
  rcases h2 with h2 | h2
  · exact .inl ⟨a1, vs, i, w, rfl, r2, SqL.of h2, ha, q w H (Evl.Ex.refl H) rw_⟩
  · exact .inr ⟨a1, vs, i, w, rfl, r2, h2, ha, q w H (Evl.Ex.refl H) rw_⟩
/-- a pair's places -/
theorem ev_fst [Frz α] [Frz β] {x : α × β} (ha : Ev K ta Γ x) : Ev K (tOp (rIxU K) ta (tC (.int 0))) Γ x.1 := ev_op2 ha (ev_int (i := 0)) fun v u H Q r1 r2 q => by
  obtain ⟨a1, v1, v2, rfl, h2, h3, h4⟩ := r1
  exact .inr ⟨a1, _, 0, v1, rfl, r2, h2, rfl, q v1 H (Evl.Ex.refl H) h3⟩
theorem ev_snd [Frz α] [Frz β] {x : α × β} (ha : Ev K ta Γ x) : Ev K (tOp (rIxU K) ta (tC (.int 1))) Γ x.2 := ev_op2 ha (ev_int (i := 1)) fun v u H Q r1 r2 q => by
  obtain ⟨a1, v1, v2, rfl, h2, h3, h4⟩ := r1
  exact .inr ⟨a1, _, 1, v2, rfl, r2, h2, rfl, q v2 H (Evl.Ex.refl H) h4⟩
/-- a pair at a reckoned place 0 or 1 -/
theorem ev_pix [Frz α] {x : α × α} (ha : Ev K ta Γ x) (hb : Ev K tb Γ i) (hi : i = 0 ∨ i = 1) : Ev K (tOp (rIxU K) ta tb) Γ (if i = 0 then x.1 else x.2) := ev_op2 ha hb fun v u H Q r1 r2 q => by
  obtain ⟨a1, v1, v2, rfl, h2, h3, h4⟩ := r1
  rcases hi with rfl | rfl
  · exact .inr ⟨a1, _, 0, v1, rfl, r2, h2, rfl, q v1 H (Evl.Ex.refl H) h3⟩
  · exact .inr ⟨a1, _, 1, v2, rfl, r2, h2, rfl, q v2 H (Evl.Ex.refl H) h4⟩
/-- tests -/
theorem et_test (h : Ev K te Γ a) : EvT K (tTest te) Γ a := fun B F σ H k Q q => h B F σ H k _ fun v H' e r => ⟨a, r, q H' e⟩
theorem et_B (h : Ev K te Γ a) : EvT K (tB te) Γ a := fun B F σ H k Q q => h B F σ H k _ fun v H' e r => ⟨a, r, q H' e⟩
theorem et_and (h1 : EvT K tt Γ a) (h2 : a = true → EvT K tu Γ b) : EvT K (tAnd tt tu) Γ (a && b) := fun B F σ H k Q q => h1 B F σ H k _ fun H1 e => by
  cases a with
  | true =>
    show tu σ H1 Q
    exact h2 rfl B F σ H1 (k.mono e) Q fun H2 e2 => q H2 (e.trans e2)
  | false =>
    show Q false H1
    exact q H1 e
theorem et_or (h1 : EvT K tt Γ a) (h2 : a = false → EvT K tu Γ b) : EvT K (tOr tt tu) Γ (a || b) := fun B F σ H k Q q => h1 B F σ H k _ fun H1 e => by
  cases a with
  | true =>
    show Q true H1
    exact q H1 e
  | false =>
    show tu σ H1 Q
    exact h2 rfl B F σ H1 (k.mono e) Q fun H2 e2 => q H2 (e.trans e2)
theorem et_not (h1 : EvT K tt Γ a) : EvT K (tNot tt) Γ (!a) := fun B F σ H k Q q => h1 B F σ H k _ q
theorem et_yes : EvT K tYes Γ true := fun B F σ H k Q q => q H (Evl.Ex.refl H)
theorem ev_andV (h1 : Ev K ta Γ a) (h2 : a = true → Ev K tb Γ b) : Ev K (tAndV ta tb) Γ (a && b) := fun B F σ H k Q q => h1 B F σ H k _ fun v H1 e r => ⟨a, r, by
  cases a with
  | true =>
    show tb σ H1 Q
    exact h2 rfl B F σ H1 (k.mono e) Q fun v H2 e2 r2 => q v H2 (e.trans e2) r2
  | false =>
    show Q (.bl false) H1
    exact q _ H1 e rfl⟩
theorem ev_orV (h1 : Ev K ta Γ a) (h2 : a = false → Ev K tb Γ b) : Ev K (tOrV ta tb) Γ (a || b) := fun B F σ H k Q q => h1 B F σ H k _ fun v H1 e r => ⟨a, r, by
  cases a with
  | true =>
    show Q (.bl true) H1
    exact q _ H1 e rfl
  | false =>
    show tb σ H1 Q
    exact h2 rfl B F σ H1 (k.mono e) Q fun v H2 e2 r2 => q v H2 (e.trans e2) r2⟩
theorem ev_notV (h1 : Ev K ta Γ a) : Ev K (tNotV ta) Γ (!a) := fun B F σ H k Q q => h1 B F σ H k _ fun v H1 e r => ⟨a, r, q _ H1 e rfl⟩
theorem ev_if [Enc α] {x y : α} (h : EvT K tt Γ b) (h1 : b = true → Ev K ta Γ x) (h2 : b = false → Ev K tb Γ y) : Ev K (tIf tt ta tb) Γ (if b = true then x else y) := fun B F σ H k Q q => h B F σ H k _ fun H1 e => by
  cases b with
  | true =>
    show ta σ H1 Q
    exact h1 rfl B F σ H1 (k.mono e) Q fun v H2 e2 r2 => q v H2 (e.trans e2) r2
  | false =>
    show tb σ H1 Q
    exact h2 rfl B F σ H1 (k.mono e) Q fun v H2 e2 r2 => q v H2 (e.trans e2) r2
theorem ev_isNone [Frz α] {x : Option (List α)} (ha : Ev K ta Γ x) : Ev K (tOp rIsU ta (tC .non)) Γ (x.isNone) := ev_op2 ha ev_non fun v u H Q r1 r2 q => .inl ⟨r2, q _ H (Evl.Ex.refl H) (by
  cases x with
  | none =>
    have e : v = V.non := r1
    subst e
    rfl
  | some xs =>
    obtain ⟨a1, vs, rfl, _⟩ := r1
    rfl)⟩
theorem ev_isNotNone [Frz α] {x : Option (List α)} (ha : Ev K ta Γ x) : Ev K (tOp rIsNotU ta (tC .non)) Γ (x.isSome) := ev_op2 ha ev_non fun v u H Q r1 r2 q => .inl ⟨r2, q _ H (Evl.Ex.refl H) (by
  cases x with
  | none =>
    have e : v = V.non := r1
    subst e
    rfl
  | some xs =>
    obtain ⟨a1, vs, rfl, _⟩ := r1
    rfl)⟩
theorem ev_isNotB (ha : Ev K ta Γ a) (hb : Ev K tb Γ b) : Ev K (tOp rIsNotU ta tb) Γ (!decide (a = b)) := ev_op2 ha hb fun v u H Q r1 r2 q => .inr ⟨a, b, r1, r2, q _ H (Evl.Ex.refl H) rfl⟩
/-- arguments -/
theorem ea_nil : EvA K tNil Γ PNil := fun B F σ H k Q q => q [] H (Evl.Ex.refl H) rfl
theorem ea_cons [Enc α] {x : α} {tr : TA} {P : List V → Hp → Prop} (h : Ev K ta Γ x) (hr : EvA K tr Γ P) : EvA K (tCons ta tr) Γ (PCons K x P) := fun B F σ H k Q q =>
  h B F σ H k _ fun v H1 e1 r1 => hr B F σ H1 (k.mono e1) _ fun vs H2 e2 p => q _ H2 (e1.trans e2) ⟨v, vs, rfl, Enc.mono e2 r1, p⟩
theorem ev_call [Enc γ] {y : γ} {tr : TA} {E : XK} {P : List V → Hp → Prop} {Pf : List V → Hp → γ → Prop} (h : EvA K tr Γ P) (hp : ∀ vs H, P vs H → Pf vs H y) : EvN K (tCall (fnSp K Pf) [] E tr) Γ y := fun B F σ H k Q q =>
  h B F σ H k _ fun vs H1 e1 p => ⟨y, by rw [List.append_nil]; exact hp vs H1 p, fun v H' e2 r n => q v H' (e1.trans e2) r (Enc.nwm e1 n)⟩
/-- displays -/
theorem ea_list [Enc α] {tr : TA} : EvA K tr Γ PNil → EvA K tr Γ (fun vs H => Paired (Enc.R K H) vs ([] : List α)) := fun h B F σ H k Q q => h B F σ H k Q fun vs H1 e p => q vs H1 e (by
  have e : vs = [] := p
  subst e
  exact .nil)
theorem eal_nil [Enc α] : EvA K tNil Γ (fun vs H => Paired (Enc.R K H) vs ([] : List α)) := fun B F σ H k Q q => q [] H (Evl.Ex.refl H) .nil
theorem eal_cons [Enc α] {x : α} {xs : List α} {tr : TA} (h : Ev K ta Γ x) (hr : EvA K tr Γ (fun vs H => Paired (Enc.R K H) vs xs)) : EvA K (tCons ta tr) Γ (fun vs H => Paired (Enc.R K H) vs (x :: xs)) := fun B F σ H k Q q =>
  h B F σ H k _ fun v H1 e1 r1 => hr B F σ H1 (k.mono e1) _ fun vs H2 e2 p => q _ H2 (e1.trans e2) (.cons (Enc.mono e2 r1) p)
theorem ev_tup [Frz α] {xs : List α} {tr : TA} (h : EvA K tr Γ (fun vs H => Paired (Enc.R K H) vs xs)) (hl : xs.length ≤ LIM := by exact Nat.le_of_ble_eq_true rfl) : Ev K (tTup tr) Γ xs := fun B F σ H k Q q =>
  h B F σ H k _ fun vs H1 e1 p => ⟨by rw [paired_len p]; exact lim_le hl, fun a1 ha => q _ _ (e1.trans (Evl.Ex.new ha)) ⟨a1, vs, rfl, SqT.of upd_same, hl, paired_mono (fun _ _ r => Enc.mono (Evl.Ex.new ha) r) p⟩⟩
theorem ev_lst [Frz α] {xs : List α} {tr : TA} (h : EvA K tr Γ (fun vs H => Paired (Enc.R K H) vs xs)) (hl : xs.length ≤ LIM := by exact Nat.le_of_ble_eq_true rfl) : EvN K (tLst tr) Γ (Lst.mk xs) := fun B F σ H k Q q =>
  h B F σ H k _ fun vs H1 e1 p => ⟨by rw [paired_len p]; exact lim_le hl, fun a1 ha => q _ _ (e1.trans (Evl.Ex.new ha)) ⟨a1, vs, rfl, upd_same, hl, paired_mono (fun _ _ r => Enc.mono (Evl.Ex.new ha) r) p⟩ ⟨a1, rfl, Evl.fresh_back e1 ha⟩⟩
theorem ev_pair [Frz α] [Frz β] {x : α} {y : β} (h1 : Ev K ta Γ x) (h2 : Ev K tb Γ y) : Ev K (tTup (tCons ta (tCons tb tNil))) Γ (x, y) := fun B F σ H k Q q =>
  h1 B F σ H k _ fun v H1 e1 r1 => h2 B F σ H1 (k.mono e1) _ fun u H2 e2 r2 => ⟨by show 2 ≤ sizeLine; decide, fun a1 ha => q _ _ ((e1.trans e2).trans (Evl.Ex.new ha)) ⟨a1, v, u, rfl, SqT.of upd_same, Enc.mono (e2.trans (Evl.Ex.new ha)) r1, Enc.mono (Evl.Ex.new ha) r2⟩⟩
/-- a pair of one kind is a tuple of two -/
theorem pair_list [Frz α] {H : Hp} {v : V} {x y : α} (h : Enc.R K H v (x, y)) : Enc.R K H v [x, y] := by
  obtain ⟨a1, v1, v2, rfl, h2, h3, h4⟩ := h
  exact ⟨a1, _, rfl, h2, Nat.le_of_ble_eq_true rfl, .cons h3 (.cons h4 .nil)⟩
theorem list_pair [Frz α] {H : Hp} {v : V} {x y : α} (h : Enc.R K H v [x, y]) : Enc.R K H v (x, y) := by
  obtain ⟨a1, vs, rfl, h2, _, h4⟩ := h
  cases h4 with
  | cons r1 t =>
    cases t with
    | cons r2 t =>
      cases t
      exact ⟨a1, _, _, rfl, h2, r1, r2⟩
end
end Dy
/-! ## Dl3 -/
namespace Dy
open PySem L2 PyProof.Rows
/-! ### calls of built-in functions -/
def rLenQ (K : Fg) : List V → Hp → VK → Prop := fun xs H Q => ∃ p ys, xs = [.ref p] ∧ (SqL K H p ys ∨ SqT K H p ys) ∧ Q (.int ys.length) H
def rTupQ (K : Fg) : List V → Hp → VK → Prop := fun xs H Q => ∃ p ys, xs = [.ref p] ∧ ((SqL K H p ys ∧ ∀ l, H l = none → Q (.ref l) (upd H l (.tup ys))) ∨ (SqT K H p ys ∧ Q (.ref p) H))
def rLstQ (K : Fg) : List V → Hp → VK → Prop := fun xs H Q => ∃ p ys, xs = [.ref p] ∧ (SqL K H p ys ∨ SqT K H p ys) ∧ ∀ l, H l = none → Q (.ref l) (upd H l (.lst ys))
def rIntQ : List V → Hp → VK → Prop := fun xs H Q => (∃ i, xs = [.int i] ∧ Q (.int i) H) ∨ ∃ k, xs = [.bl k] ∧ Q (.int (if k then 1 else 0)) H
def rAbsQ : List V → Hp → VK → Prop := fun xs H Q => ∃ i, xs = [.int i] ∧ Q (.int (if i < 0 then -i else i)) H
section
variable {X : Cx}
theorem call_lenQ : CallR X (.builtin "len") (rLenQ X.K) := call_len_seq
theorem call_tupQ : CallR X (.type "tuple") (rTupQ X.K) := call_tuple_of
theorem call_lstQ : CallR X (.type "list") (rLstQ X.K) := call_list_of
theorem call_intQ : CallR X (.type "int") rIntQ := call_int1
theorem call_absQ : CallR X (.builtin "abs") rAbsQ := call_abs
end
section
variable {α β γ : Type} {K : Fg} {ta tb tc te : TE} {tt tu : TT} {tl th : TO} {Γ Γ' : Ctx} {a b : Bool} {i j : Int}
theorem ev_call1 [Enc α] [Enc γ] {r : List V → Hp → VK → Prop} {x : α} {z : γ} (ha : Ev K ta Γ x) (hr : ∀ v H (Q : VK), Enc.R K H v x → (∀ w H', Ex H H' → Enc.R K H' w z → Q w H') → r [v] H Q) : Ev K (tCB r (tCons ta tNil)) Γ z := fun B F σ H k Q q =>
  ha B F σ H k _ fun v H1 e1 r1 => hr v H1 Q r1 fun w H' e2 r2 => q w H' (e1.trans e2) r2
theorem ev_call1N [Enc α] [Enc γ] {r : List V → Hp → VK → Prop} {x : α} {z : γ} (ha : Ev K ta Γ x) (hr : ∀ v H (Q : VK), Enc.R K H v x → (∀ w H', Ex H H' → Enc.R K H' w z → Enc.nw γ H w → Q w H') → r [v] H Q) : EvN K (tCB r (tCons ta tNil)) Γ z := fun B F σ H k Q q =>
  ha B F σ H k _ fun v H1 e1 r1 => hr v H1 Q r1 fun w H' e2 r2 n2 => q w H' (e1.trans e2) r2 (Enc.nwm e1 n2)
theorem ev_len [Frz α] {xs : List α} (ha : Ev K ta Γ (Sq.mk xs)) : Ev K (tCB (rLenQ K) (tCons ta tNil)) Γ ((xs.length : Nat) : Int) := ev_call1 ha fun v H Q r q => by
  obtain ⟨p, vs, rfl, h2, h3, h4⟩ := r
  have e := paired_len h4
  refine ⟨p, vs, rfl, h2.imp SqL.of id, q _ H (Evl.Ex.refl H) ?_⟩
  show V.int (vs.length : Nat) = V.int ((xs.length : Nat) : Int)
  rw [e]
theorem ev_len2 [Frz α] [Frz β] {x : α × β} (ha : Ev K ta Γ x) : Ev K (tCB (rLenQ K) (tCons ta tNil)) Γ (2 : Int) := ev_call1 ha fun v H Q r q => by
  obtain ⟨p, v1, v2, rfl, h2, h3, h4⟩ := r
  exact ⟨p, _, rfl, .inr h2, q _ H (Evl.Ex.refl H) rfl⟩
theorem ev_tupL [Frz α] {xs : List α} (ha : Ev K ta Γ (Sq.mk xs)) : Ev K (tCB (rTupQ K) (tCons ta tNil)) Γ xs := ev_call1 ha fun v H Q r q => by
  obtain ⟨p, vs, rfl, h2, h3, h4⟩ := r
  rcases h2 with h2 | h2
  · exact ⟨p, vs, rfl, .inl ⟨SqL.of h2, fun l hl => q _ _ (Evl.Ex.new hl) ⟨l, vs, rfl, SqT.of upd_same, h3, paired_mono (fun _ _ r => Enc.mono (Evl.Ex.new hl) r) h4⟩⟩⟩
  · exact ⟨p, vs, rfl, .inr ⟨h2, q _ H (Evl.Ex.refl H) ⟨p, vs, rfl, h2, h3, h4⟩⟩⟩
theorem ev_lstL [Frz α] {xs : List α} (ha : Ev K ta Γ (Sq.mk xs)) : EvN K (tCB (rLstQ K) (tCons ta tNil)) Γ (Lst.mk xs) := ev_call1N ha fun v H Q r q => by
  obtain ⟨p, vs, rfl, h2, h3, h4⟩ := r
  exact ⟨p, vs, rfl, h2.imp SqL.of id, fun l hl => q _ _ (Evl.Ex.new hl) ⟨l, vs, rfl, upd_same, h3, paired_mono (fun _ _ r => Enc.mono (Evl.Ex.new hl) r) h4⟩ ⟨l, rfl, hl⟩⟩
theorem ev_intI (ha : Ev K ta Γ i) : Ev K (tCB rIntQ (tCons ta tNil)) Γ i := ev_call1 ha fun v H Q r q => .inl ⟨i, by rw [r], q _ H (Evl.Ex.refl H) rfl⟩
theorem ev_intB (ha : Ev K ta Γ a) : Ev K (tCB rIntQ (tCons ta tNil)) Γ (if a then (1 : Int) else 0) := ev_call1 ha fun v H Q r q => .inr ⟨a, by rw [r], q _ H (Evl.Ex.refl H) rfl⟩
theorem ev_abs (ha : Ev K ta Γ i) : Ev K (tCB rAbsQ (tCons ta tNil)) Γ (if i < 0 then -i else i) := ev_call1 ha fun v H Q r q => ⟨i, by rw [r], q _ H (Evl.Ex.refl H) rfl⟩
theorem paired_bl {H : Hp} : ∀ {vs : List V} {bs : List Bool}, Paired (Enc.R K H) vs bs → vs = bs.map V.bl
  | _, _, .nil => rfl
  | _, _, .cons r t => by
    rw [List.map_cons, paired_bl t]
    exact congrArg (· :: _) r
theorem paired_int {H : Hp} : ∀ {vs : List V} {bs : List Int}, Paired (Enc.R K H) vs bs → vs = bs.map V.int
  | _, _, .nil => rfl
  | _, _, .cons r t => by
    rw [List.map_cons, paired_int t]
    exact congrArg (· :: _) r
theorem int_paired {H : Hp} : ∀ (bs : List Int), Paired (Enc.R K H) (bs.map V.int) bs
  | [] => .nil
  | _ :: t => .cons rfl (int_paired t)
theorem ev_all {bs : List Bool} (ha : Ev K ta Γ (Lst.mk bs)) : Ev K (tCB (rAll K) (tCons ta tNil)) Γ (bs.all id) := ev_call1 ha fun v H Q r q => by
  obtain ⟨p, vs, rfl, h2, h3, h4⟩ := r
  rw [paired_bl h4] at h2
  exact ⟨p, bs, rfl, SqL.of h2, q _ H (Evl.Ex.refl H) rfl⟩
theorem ev_any {bs : List Bool} (ha : Ev K ta Γ (Lst.mk bs)) : Ev K (tCB (rAny K) (tCons ta tNil)) Γ (bs.any id) := ev_call1 ha fun v H Q r q => by
  obtain ⟨p, vs, rfl, h2, h3, h4⟩ := r
  rw [paired_bl h4] at h2
  exact ⟨p, bs, rfl, SqL.of h2, q _ H (Evl.Ex.refl H) rfl⟩
/-- min, max of a list of two -/
theorem ev_min2 (ha : Ev K ta Γ (Lst.mk [i, j])) : Ev K (tCB (rMin K) (tCons ta tNil)) Γ (min i j) := ev_call1 ha fun v H Q r q => by
  obtain ⟨p, vs, rfl, h2, h3, h4⟩ := r
  rw [paired_int h4] at h2
  refine ⟨p, [i, j], rfl, SqL.of h2, Nat.zero_lt_succ _, fun m hm hl => q _ H (Evl.Ex.refl H) (congrArg V.int ?_)⟩
  have h1 := hl i (by simp)
  have h2 := hl j (by simp)
  rcases List.mem_cons.mp
          hm with e | e
  · omega
  · have e : m = j := by simpa using e
    omega
theorem ev_max2 (ha : Ev K ta Γ (Lst.mk [i, j])) : Ev K (tCB (rMax K) (tCons ta tNil)) Γ (max i j) := ev_call1 ha fun v H Q r q => by
  obtain ⟨p, vs, rfl, h2, h3, h4⟩ := r
  rw [paired_int h4] at h2
  refine ⟨p, [i, j], rfl, SqL.of h2, Nat.zero_lt_succ _, fun m hm hl => q _ H (Evl.Ex.refl H) (congrArg V.int ?_)⟩
  have h1 := hl i (by simp)
  have h2 := hl j (by simp)
  rcases List.mem_cons.mp
          hm with e | e
  · omega
  · have e : m = j := by simpa using e
    omega
/-- sorted ints -/
def sortI (xs : List Int) : List Int := xs.mergeSort (fun a b => decide (a ≤ b))
theorem sortI_unique {xs ys : List Int} (h1 : ys.Perm xs) (h2 : ys.Pairwise (· ≤ ·)) : ys = sortI xs := by
  have p : (sortI xs).Perm xs := List.mergeSort_perm _ _
  have s : (sortI xs).Pairwise (· ≤ ·) := by
    have := List.pairwise_mergeSort (le := fun a b : Int => decide (a ≤ b)) (by intro a b c; simp; omega) (by intro a b; simp; omega) xs
    exact this.imp (by intro a b h; simpa using h)
  exact (h1.trans p.symm).eq_of_pairwise (fun a b _ _ h3 h4 => Int.le_antisymm h3 h4) h2 s
theorem sortI_len (xs : List Int) : (sortI xs).length = xs.length := List.length_mergeSort _
theorem ev_sortI {xs : List Int} (ha : Ev K ta Γ (Lst.mk xs)) : EvN K (tCB (rSortedI K) (tCons ta tNil)) Γ (Lst.mk (sortI xs)) := ev_call1N ha fun v H Q r q => by
  obtain ⟨p, vs, rfl, h2, h3, h4⟩ := r
  rw [paired_int h4] at h2
  refine ⟨p, xs, rfl, SqL.of h2, fun ns l hp hs hl => q _ _ (Evl.Ex.new hl) ⟨l, _, rfl, upd_same, ?_, ?_⟩ ⟨l, rfl, hl⟩⟩
  · show (sortI xs).length ≤ LIM
    rw [sortI_len]
    exact h3
  · rw [← sortI_unique hp hs]
    exact int_paired ns
/-- isinstance with a built-in class -/
theorem sqT_ty {H : Hp} {p : Addr} {vs : List V} (h : SqT K H p vs) : TyX K H (.ref p) (.type "tuple") := by
  rcases h with (h | ⟨o, h⟩) | ⟨o, its, n, h1, h2, _⟩
  · exact .base (.tup h)
  · exact .fTuple h
  · exact .kTuple h1 h2
theorem ev_isi [Enc α] {x : α} {T C : String} (ha : Ev K ta Γ x) (ht : ∀ v H, Enc.R K H v x → TyX K H v (.type T)) (hk : kitB T C = some b) : Ev K (tCB (rIsi K) (tCons ta (tCons (tC (.ty C)) tNil))) Γ b := fun B F σ H k Q q =>
  ha B F σ H k _ fun v H1 e1 r1 => ⟨v, .ty C, .type T, .type C, b, rfl, .ty C, ht v H1 r1, kit_ty hk, q _ H1 e1 rfl⟩
theorem ev_isiI {C : String} (ha : Ev K ta Γ i) (hk : kitB "int" C = some b) : Ev K (tCB (rIsi K) (tCons ta (tCons (tC (.ty C)) tNil))) Γ b := ev_isi ha (fun v H r => by
  have e : v = V.int i := r
  subst e
  exact .base (.int i)) hk
theorem ev_isiT [Frz α] {xs : List α} {C : String} (ha : Ev K ta Γ xs) (hk : kitB "tuple" C = some b) : Ev K (tCB (rIsi K) (tCons ta (tCons (tC (.ty C)) tNil))) Γ b := ev_isi ha (fun v H r => by
  obtain ⟨p, vs, rfl, h2, _⟩ := r
  exact sqT_ty h2) hk
theorem ev_isiP [Frz α] [Frz β] {x : α × β} {C : String} (ha : Ev K ta Γ x) (hk : kitB "tuple" C = some b) : Ev K (tCB (rIsi K) (tCons ta (tCons (tC (.ty C)) tNil))) Γ b := ev_isi ha (fun v H r => by
  obtain ⟨p, v1, v2, rfl, h2, _⟩ := r
  exact sqT_ty h2) hk
/-- slices -/
def cutX (xs : List α) (lo hi : Option Int) : List α := (xs.drop (HT.sIx xs.length 0 lo)).take (HT.sIx xs.length xs.length hi - HT.sIx xs.length 0 lo)
theorem cutX_len (xs : List α) (lo hi : Option Int) : (cutX xs lo hi).length ≤ xs.length := by
  unfold cutX
  rw [List.length_take,
          List.length_drop]
  omega
theorem eo_none : EvO K tNoPart Γ none := fun B F σ H k Q q => q H (Evl.Ex.refl H)
theorem eo_some (h : Ev K ta Γ i) : EvO K (tPart ta) Γ (some i) := fun B F σ H k Q q => h B F σ H k _ fun v H1 e r => ⟨i, r, q H1 e⟩
theorem ev_sliceL [Frz α] {xs : List α} {lo hi : Option Int} (ha : Ev K ta Γ (Lst.mk xs)) (hl : EvO K tl Γ lo) (hh : EvO K th Γ hi) : EvN K (tSl (rSlU K) ta tl th) Γ (Lst.mk (cutX xs lo hi)) := fun B F σ H k Q q =>
  ha B F σ H k _ fun v H1 e1 r1 => hl B F σ H1 (k.mono e1) _ fun H2 e2 => hh B F σ H2 (k.mono (e1.trans e2)) _ fun H3 e3 => by
    obtain ⟨p, vs, rfl, h2, h3, h4⟩ := Enc.mono (e2.trans e3) r1
    have e := paired_len h4
    refine .inl ⟨p, vs, rfl, SqL.of h2, fun l hl => q _ _ (((e1.trans e2).trans e3).trans (Evl.Ex.new hl)) ⟨l, _, rfl, upd_same, Nat.le_trans (cutX_len _ _ _) h3, ?_⟩ ⟨l, rfl, Evl.fresh_back ((e1.trans e2).trans e3) hl⟩⟩
    unfold cutX cutV
    rw [e]
    exact paired_take _ (paired_drop _ (paired_mono (fun _ _ r => Enc.mono (Evl.Ex.new hl) r) h4))
theorem ev_sliceT [Frz α] {xs : List α} {lo hi : Option Int} (ha : Ev K ta Γ xs) (hl : EvO K tl Γ lo) (hh : EvO K th Γ hi) : Ev K (tSl (rSlU K) ta tl th) Γ (cutX xs lo hi) := fun B F σ H k Q q =>
  ha B F σ H k _ fun v H1 e1 r1 => hl B F σ H1 (k.mono e1) _ fun H2 e2 => hh B F σ H2 (k.mono (e1.trans e2)) _ fun H3 e3 => by
    obtain ⟨p, vs, rfl, h2, h3, h4⟩ := Enc.mono (e2.trans e3) r1
    have e := paired_len h4
    refine .inr ⟨p, vs, rfl, h2, fun z => ?_, fun z l hl => q _ _ (((e1.trans e2).trans e3).trans (Evl.Ex.new hl)) ⟨l, _, rfl, SqT.of upd_same, Nat.le_trans (cutX_len _ _ _) h3, ?_⟩⟩
    · have e5 : cutX xs lo hi = xs := by
        unfold cutX
        rw [← e, z.1, z.2]
        simp [e]
      rw [e5] at q
      exact q _ H3 ((e1.trans e2).trans e3) ⟨p, vs, rfl, h2, h3, h4⟩
    · unfold cutX cutV
      rw [e]
      exact paired_take _ (paired_drop _ (paired_mono (fun _ _ r => Enc.mono (Evl.Ex.new hl) r) h4))
theorem paired_rep {α β : Type} {F : α → β → Prop} {xs : List α} {ys : List β} (n : Nat) (h : Paired F xs ys) : Paired F (List.replicate n xs).flatten (List.replicate n ys).flatten := by
  induction n with
  | zero => exact .nil
  | succ n ih =>
    rw [List.replicate_succ, List.replicate_succ,
            List.flatten_cons, List.flatten_cons]
    exact paired_append h ih
theorem ev_repT [Frz α] {xs : List α} (ha : Ev K ta Γ xs) (hb : Ev K tb Γ i) (h0 : xs ≠ []) (h2 : 2 ≤ i) (h3 : i ≤ 1000) (h4 : xs.length = 1) : Ev K (tOp (rMulU K) ta tb) Γ (List.replicate i.toNat xs).flatten := ev_op2 ha hb fun v u H Q r1 r2 q => by
  obtain ⟨p, vs, rfl, k2, k3, k4⟩ := r1
  have e := paired_len k4
  refine .inr ⟨p, i, vs, rfl, r2, k2, fun z => ?_, h2, h3, by omega, fun l hl => q _ _ (Evl.Ex.new hl) ⟨l, _, rfl, SqT.of upd_same, ?_, ?_⟩⟩
  · subst z
    cases k4
    exact h0 rfl
  · have : (List.replicate i.toNat xs).flatten.length = i.toNat * xs.length := by simp
    rw [this, h4]
    unfold LIM
    omega
  · exact paired_rep _ (paired_mono (fun _ _ r => Enc.mono (Evl.Ex.new hl) r) k4)
end
end Dy
/-! ## Dl4 -/
namespace Dy
open PySem L2 PyProof.Rows
/-! ### what is walked -/
structure ItOk (K : Fg) {α : Type} [Enc α] (G : Hp) (J : It) (xs : List α) : Prop where
  go : ∀ (i : Nat) (x : α) (H : Hp), Ex G H → xs[i]? = some x → J.go i H ∧ ∀ v H', J.yld i H v H' → H' = H ∧ Enc.R K H v x
  stop : ∀ H, Ex G H → J.stop xs.length H
section
variable {α β γ : Type} {K : Fg} {ta tb tc te tl : TE} {tt tu : TT} {Γ Γ' : Ctx} {a b : Bool} {i j : Int}
theorem it_list [Enc α] {G : Hp} {p : Addr} {vs : List V} {xs : List α} (h : G p = some (.lst vs)) (hp : Paired (Enc.R K G) vs xs) : ItOk K G (Itl K p) xs where
  go n x H e hx := by
    obtain ⟨v, hv, r⟩ := paired_get' hp hx
    refine ⟨⟨vs, v, SqL.of (e p _ h), hv⟩, fun u H' y => ?_⟩
    obtain ⟨e1, e2⟩ := y
    refine ⟨e1, ?_⟩
    have e3 := e2 vs (SqL.of (e p _ h))
    rw [hv] at e3
    cases e3
    exact Enc.mono e r
  stop H e := ⟨vs, SqL.of (e p _ h), Nat.le_of_eq (paired_len hp)⟩
theorem it_tup [Enc α] {G : Hp} {p : Addr} {vs : List V} {xs : List α} (h : SqT K G p vs) (hp : Paired (Enc.R K G) vs xs) : ItOk K G (Itt K p) xs where
  go n x H e hx := by
    obtain ⟨v, hv, r⟩ := paired_get' hp hx
    refine ⟨⟨vs, v, Evl.ex_t e h, hv⟩, fun u H' y => ?_⟩
    obtain ⟨e1, e2⟩ := y
    refine ⟨e1, ?_⟩
    have e3 := e2 vs (Evl.ex_t e h)
    rw [hv] at e3
    cases e3
    exact Enc.mono e r
  stop H e := ⟨vs, Evl.ex_t e h, Nat.le_of_eq (paired_len hp)⟩
def rng (lo : Int) (n : Nat) : List Int := (List.range n).map fun (i : Nat) => lo + (i : Int)
theorem rng_len (lo : Int) (n : Nat) : (rng lo n).length = n := by simp [rng]
theorem it_rng {G : Hp} {lo : Int} {n : Nat} : ItOk K G (Itr lo n) (rng lo n) where
  go k x H e hx := by
    unfold rng at hx
    rw [List.getElem?_map] at hx
    by_cases hk : k < n
    · rw [List.getElem?_range hk] at hx
      have e1 : lo + (k : Int) = x := Option.some.inj hx
      subst e1
      exact ⟨hk, fun v H' y => ⟨y.1, y.2⟩⟩
    · rw [List.getElem?_eq_none (by simpa using hk)] at hx
      cases hx
  stop H e := by
    rw [rng_len]
    exact Nat.le_refl n
def EvI (K : Fg) [Enc α] (wi : TI) (Γ : Ctx) (xs : List α) : Prop := ∀ B F σ H, Kn K B F H σ Γ → ∀ R : It → Hp → Prop, (∀ J H', Ex H H' → ItOk K H' J xs → xs.length ≤ LIM → R J H') → wi σ H R
/-- what is walked stays while own objects change -/
def EvF (K : Fg) [Enc α] (wi : TI) (Γ : Ctx) (xs : List α) : Prop := ∀ B F σ H, Kn K B F H σ Γ → ∀ R : It → Hp → Prop, (∀ J H' F', Kn K B F' H' σ Γ → Ex F F' → ItOk K F' J xs → R J H') → wi σ H R
theorem ei_seq [Frz α] {xs : List α} (h : Ev K tl Γ (Sq.mk xs)) : EvI K (iSeq K tl) Γ xs := fun B F σ H k R q => h B F σ H k _ fun v H1 e r => by
  obtain ⟨p, vs, rfl, h2, h3, h4⟩ := r
  rcases h2 with h2 | h2
  · exact ⟨p, rfl, .inl ⟨⟨vs, SqL.of h2⟩, q _ _ e (it_list h2 h4) h3⟩⟩
  · exact ⟨p, rfl, .inr ⟨⟨vs, h2⟩, q _ _ e (it_tup h2 h4) h3⟩⟩
theorem ei_rng1 (h : Ev K ta Γ i) (hi : -100000 ≤ i ∧ i ≤ 100000) : EvI K (iRng1 (tCons ta tNil)) Γ (rng 0 i.toNat) := fun B F σ H k R q => h B F σ H k _ fun v H1 e r =>
  ⟨i, by rw [r], by omega, by omega, q _ _ e it_rng (by rw [rng_len]; unfold LIM; omega)⟩
theorem ei_rng2 (h : Ev K ta Γ i) (h' : Ev K tb Γ j) (hi : -100000 ≤ i ∧ i ≤ 100000) (hj : -100000 ≤ j ∧ j ≤ 100000) (hl : (j - i).toNat ≤ LIM) : EvI K (iRng2 (tCons ta (tCons tb tNil))) Γ (rng i (j - i).toNat) := fun B F σ H k R q => h B F σ H k _ fun v H1 e r => h' B F σ H1 (k.mono e) _ fun u H2 e2 r2 =>
  ⟨i, j, by rw [r, r2], by omega, q _ _ (e.trans e2) it_rng (by rw [rng_len]; exact hl)⟩
theorem ef_tup [Frz α] {xs : List α} (h : Ev K tl Γ xs) : EvF K (iSeq K tl) Γ xs := fun B F σ H k R q => h B F σ H k _ fun v H1 e r => by
  have k1 := k.mono e
  obtain ⟨p, vs, rfl, h2, h3, h4⟩ := Kp.keep (frz_keep k1.exF) r
  have r2 := r
  obtain ⟨p', vs', e1, h2', _⟩ := r2
  cases e1
  exact ⟨p, rfl, .inr ⟨⟨vs', h2'⟩, q _ _ _ k1.frz frz_F (it_tup h2 h4)⟩⟩
theorem ef_new [Frz α] {xs : List α} (h : EvN K tl Γ (Lst.mk xs)) : EvF K (iSeq K tl) Γ xs := fun B F σ H k R q => h B F σ H k _ fun v H1 e r n => by
  obtain ⟨p, hp, hn⟩ := n
  subst hp
  have k1 := k.mono e
  obtain ⟨p', vs, e1, h2, h3, h4⟩ := r
  cases e1
  have hF : frz F H1 p = none := by
    unfold frz
    rw [Evl.fresh_back k.exF hn, h2]
    rfl
  refine ⟨p, rfl, .inl ⟨⟨vs, SqL.of h2⟩, q _ _ (upd (frz F H1) p (.lst vs)) ?_ (frz_F.trans (Evl.Ex.new hF)) (it_list upd_same (paired_mono (fun _ _ r => Enc.mono (Evl.Ex.new hF) (Kp.keep (frz_keep k1.exF) r)) h4))⟩⟩
  refine k1.frame (fun a o z => ?_) fun l o hB hF2 hl hm hex => ?_
  · by_cases e : a = p
    · subst e
      rw [upd_same] at z
      cases z
      exact h2
    · rw [upd_ne e] at z
      exact frz_ex k1.exF a o z
  · obtain ⟨i, n, P, q1, q2⟩ := hex
    have ne : l ≠ p := fun z => by
      subst z
      obtain ⟨l2, o2, x1, _, _, _, x2, _⟩ := k.at_ i _ q1
      rw [q2] at x1
      cases x1
      rw [hn] at x2
      cases x2
    rw [upd_ne ne]
    exact frz_none hF2 hl hm
theorem ef_base [Frz α] {n : Nat} {xs : List α} (h : Γ[n]? = some (.bs (Sq.mk xs))) : EvF K (iSeq K (tVar n)) Γ xs := fun B F σ H k R q => by
  obtain ⟨v, h1, r⟩ := k.at_ n _ h
  obtain ⟨p, vs, rfl, h2, h3, h4⟩ := r
  have kp : Ex B (fun a => match B a with | some o => some o | none => F a) := fun a o z => by
    show (match B a with | some o => some o | none => F a) = some o
    rw [z]
  have kf : Ex F (fun a => match B a with | some o => some o | none => F a) := fun a o z => by
    show (match B a with | some o => some o | none => F a) = some o
    cases hb : B a with
    | none => exact z
    | some u => exact (k.exB a _ hb).symm.trans (k.exF a _ z)
  have kn : Kn K B (fun a => match B a with | some o => some o | none => F a) H σ Γ := k.frame (fun a o z => by
    have z : (match B a with | some o => some o | none => F a) = some o := z
    cases hb : B a with
    | none =>
      rw [hb] at z
      exact k.exF a o z
    | some u =>
      rw [hb] at z
      cases z
      exact k.exB a _ hb) fun l o hB hF _ _ _ => by
    show (match B l with | some o => some o | none => F l) = none
    rw [hB]
    exact hF
  rcases h2 with h2 | h2
  · exact ⟨_, h1, p, rfl, .inl ⟨⟨vs, SqL.of (k.exB _ _ h2)⟩, q _ _ _ kn kf (it_list (kp _ _ h2) (paired_mono (fun _ _ r => Enc.mono kp r) h4))⟩⟩
  · exact ⟨_, h1, p, rfl, .inr ⟨⟨vs, Evl.ex_t k.exB h2⟩, q _ _ _ kn kf (it_tup (Evl.ex_t kp h2) (paired_mono (fun _ _ r => Enc.mono kp r) h4))⟩⟩
theorem ef_baseL [Frz α] {n : Nat} {xs : List α} (h : Γ[n]? = some (.bs (Lst.mk xs))) : EvF K (iSeq K (tVar n)) Γ xs := fun B F σ H k R q => by
  obtain ⟨v, h1, r⟩ := k.at_ n _ h
  obtain ⟨p, vs, rfl, h2, h3, h4⟩ := r
  have kp : Ex B (fun a => match B a with | some o => some o | none => F a) := fun a o z => by
    show (match B a with | some o => some o | none => F a) = some o
    rw [z]
  have kf : Ex F (fun a => match B a with | some o => some o | none => F a) := fun a o z => by
    show (match B a with | some o => some o | none => F a) = some o
    cases hb : B a with
    | none => exact z
    | some u => exact (k.exB a _ hb).symm.trans (k.exF a _ z)
  have kn : Kn K B (fun a => match B a with | some o => some o | none => F a) H σ Γ := k.frame (fun a o z => by
    have z : (match B a with | some o => some o | none => F a) = some o := z
    cases hb : B a with
    | none =>
      rw [hb] at z
      exact k.exF a o z
    | some u =>
      rw [hb] at z
      cases z
      exact k.exB a _ hb) fun l o hB hF _ _ _ => by
    show (match B l with | some o => some o | none => F l) = none
    rw [hB]
    exact hF
  exact ⟨_, h1, p, rfl, .inl ⟨⟨vs, SqL.of (k.exB _ _ h2)⟩, q _ _ _ kn kf (it_list (kp _ _ h2) (paired_mono (fun _ _ r => Enc.mono kp r) h4))⟩⟩
theorem ef_rng1 (h : Ev K ta Γ i) (hi : -100000 ≤ i ∧ i ≤ 100000) : EvF K (iRng1 (tCons ta tNil)) Γ (rng 0 i.toNat) := fun B F σ H k R q => h B F σ H k _ fun v H1 e r =>
  ⟨i, by rw [r], by omega, by omega, q _ _ _ (k.mono e) (Evl.Ex.refl F) it_rng⟩
theorem ef_rng2 (h : Ev K ta Γ i) (h' : Ev K tb Γ j) (hi : -100000 ≤ i ∧ i ≤ 100000) (hj : -100000 ≤ j ∧ j ≤ 100000) : EvF K (iRng2 (tCons ta (tCons tb tNil))) Γ (rng i (j - i).toNat) := fun B F σ H k R q => h B F σ H k _ fun v H1 e r => h' B F σ H1 (k.mono e) _ fun u H2 e2 r2 =>
  ⟨i, j, by rw [r, r2], by omega, q _ _ _ (k.mono (e.trans e2)) (Evl.Ex.refl F) it_rng⟩
/-! ### targets -/
/-- a target takes a value that stands for x: the slots js change -/
def EvG (K : Fg) [Enc α] (g : TG) (js : List Nat) (x : α) (Γ Γ' : Ctx) : Prop := ∀ B F σ H v, Kn K B F H σ Γ → Enc.R K H v x → ∀ Q : L2.St → Hp → Prop, (∀ σ', Kn K B F H σ' Γ' → σ'.length = σ.length → (∀ k : Nat, k ∉ js → σ'[k]? = σ[k]?) → Q σ' H) → g v σ H Q
theorem eg_name [Kp α] {n : Nat} {x : α} : EvG K (gName n) [n] x Γ (Γ.set n (.fz x)) := fun B F σ H v k r Q q => q _ (k.setF r) (List.length_set) fun m hm => by
  have e : n ≠ m := fun z => hm (by simp [z])
  rw [List.getElem?_set_ne e]
theorem eg_any [Enc α] {n : Nat} {x : α} : EvG K (gName n) [n] x Γ (Γ.set n .any) := fun B F σ H v k r Q q => q _ k.setA (List.length_set) fun m hm => by
  have e : n ≠ m := fun z => hm (by simp [z])
  rw [List.getElem?_set_ne e]
theorem eg_pair [Frz α] [Frz β] {n m : Nat} {x : α × β} : EvG K (gTup K 2 (gCons (gName n) (gCons (gName m) gNil))) [n, m] x Γ ((Γ.set n (.fz x.1)).set m (.fz x.2)) := fun B F σ H v k r Q q => by
  obtain ⟨p, v1, v2, rfl, h2, h3, h4⟩ := r
  refine ⟨p, _, rfl, h2, rfl, v1, _, rfl, v2, _, rfl, rfl, q _ ((k.setF h3).setF h4) (by rw [List.length_set, List.length_set]) fun l hl => ?_⟩
  have e1 : n ≠ l := fun z => hl (by simp [z])
  have e2 : m ≠ l := fun z => hl (by simp [z])
  rw [List.getElem?_set_ne e2, List.getElem?_set_ne e1]
/-! ### comprehensions -/
def wipeC (Γ : Ctx) : List Nat → Ctx
  | [] => Γ
  | v :: vs => (wipeC Γ vs).set v .any
theorem Kn.wipe {B F H : Hp} {σ : L2.St} (h : Kn K B F H σ Γ) : ∀ vs : List Nat, Kn K B F H (L2.wipe σ vs) (wipeC Γ vs)
  | [] => h
  | _ :: vs => (Kn.wipe h vs).setA
theorem wipe_at {σ : L2.St} : ∀ {vs : List Nat} {k : Nat}, (L2.wipe σ vs)[k]? = if k ∈ vs ∧ k < σ.length then some none else σ[k]?
  | [], k => by simp [L2.wipe]
  | v :: vs, k => by
    unfold L2.wipe
    by_cases h : v = k
    · subst h
      by_cases hl : v < σ.length
      · rw [List.getElem?_set_self (by rw [wipe_length]; exact hl)]
        simp [hl]
      · rw [List.getElem?_eq_none (by rw [List.length_set, wipe_length]; omega)]
        simp [hl]
    · rw [List.getElem?_set_ne h, wipe_at]
      have h2 : ¬ k = v := fun z => h z.symm
      simp [h2]
theorem wipe_same {σ σ' : L2.St} {js vs : List Nat} (hl : σ'.length = σ.length) (h : ∀ k : Nat, k ∉ js → σ'[k]? = (L2.wipe σ vs)[k]?) (hj : ∀ k ∈ js, k ∈ vs) : L2.wipe σ' vs = L2.wipe σ vs := by
  apply List.ext_getElem?
  intro k
  rw [wipe_at, wipe_at]
  by_cases hk : k ∈ vs
  · rw [hl]
    by_cases hs : k < σ.length
    · rw [if_pos ⟨hk, hs⟩, if_pos ⟨hk, hs⟩]
    · rw [if_neg (fun z => hs z.2), if_neg (fun z => hs z.2), List.getElem?_eq_none (by omega), List.getElem?_eq_none (by omega)]
  · rw [if_neg (fun z => hk z.1), if_neg (fun z => hk z.1), h k (fun z => hk (hj k z)), wipe_at, if_neg (fun z => hk z.1)]
theorem filter_take_succ {xs : List α} {p : α → Bool} {i : Nat} {x : α} (h : xs[i]? = some x) : (xs.take (i + 1)).filter p = (xs.take i).filter p ++ if p x then [x] else [] := by
  rw [List.take_add_one,
          h, List.filter_append]
  congr 1
  show (x :: []).filter p = _
  rw [List.filter_cons, List.filter_nil]
theorem ev_lc [Enc α] [Frz β] {wi : TI} {g : TG} {js vs : List Nat} {xs : List α} {T : α → Ctx} {p : α → Bool} {f : α → β} (h : EvI K wi Γ xs) (hg : ∀ x, x ∈ xs → EvG K g js x (wipeC Γ vs) (T x))
    (ht : ∀ x, x ∈ xs → EvT K tt (T x) (p x)) (he : ∀ x, x ∈ xs → p x = true → Ev K te (T x) (f x)) (hj : ∀ k ∈ js, k ∈ vs := by decide) : EvN K (tLc wi g tt te vs) Γ (Lst.mk ((xs.filter p).map f)) := fun B F σ H k Q q =>
  h B F σ H k _ fun J H1 e1 ok hlen D hD => by
  refine ⟨fun i m H' => m = xs.length - i ∧ i ≤ xs.length ∧ Ex H1 H' ∧ ∃ us, H' D = some (.lst us) ∧ Paired (Enc.R K H') us (((xs.take i).filter p).map f),
    ⟨xs.length, by simp, Nat.zero_le _, Evl.Ex.new hD, [], upd_same, by simp; exact .nil⟩, ?_⟩
  rintro i m H' ⟨rfl, hi, ex, us, hus, pu⟩
  by_cases hlt : i < xs.length
  · refine .inr ⟨(ok.go i _ H' ex (List.getElem?_eq_getElem hlt)).1, fun H'' => i + 1 ≤ xs.length ∧ Ex H1 H'' ∧ ∃ us, H'' D = some (.lst us) ∧ Paired (Enc.R K H'') us (((xs.take (i + 1)).filter p).map f),
      fun H'' n => ⟨xs.length - (i + 1), by omega, rfl, n⟩, fun v H2 y => ?_⟩
    obtain ⟨rfl, r⟩ := (ok.go i _ H' ex (List.getElem?_eq_getElem hlt)).2 v H2 y
    have hm : xs[i] ∈ xs := List.getElem_mem hlt
    have k1 : Kn K B F H2 (L2.wipe σ vs) (wipeC Γ vs) := (k.mono (e1.trans ex)).wipe vs
    have ft := filter_take_succ (p := p) (List.getElem?_eq_getElem hlt)
    refine hg _ hm B F _ H2 v k1 r _ fun σ' k2 hl hs => ⟨wipe_same (js := js) (by rw [hl, wipe_length]) hs hj, ?_⟩
    refine ht _ hm B F σ' H2 k2 _ fun H3 e3 => ?_
    cases hp : p xs[i] with
    | true =>
      rw [hp] at ft
      show te σ' H3 _
      refine he _ hm hp B F σ' H3 (k2.mono e3) _ fun w H4 e4 r4 => ⟨us, e4 _ _ (e3 _ _ hus), ?_, hlt, Evl.Ex.mut ((ex.trans e3).trans e4) hD, us ++ [w], upd_same, ?_⟩
      · have := paired_len pu
        have h2 : us.length ≤ xs.length := by
          rw [this, List.length_map]
          refine Nat.le_trans (List.length_filter_le _ _) ?_
          rw [List.length_take]
          omega
        exact lim_lt (Nat.le_trans h2 hlen)
      · rw [ft]
        show Paired _ _ (List.map f (_ ++ [xs[i]]))
        rw [List.map_append]
        have kp : Keep H4 (upd H4 D (.lst (us ++ [w]))) := keep_upd (e4 _ _ (e3 _ _ hus)) rfl
        exact paired_append (paired_mono (fun _ _ r => Kp.keep ((keep_ex (e3.trans e4)).trans kp) r) pu) (.cons (Kp.keep kp r4) .nil)
    | false =>
      rw [hp] at ft
      show _ ∧ _
      refine ⟨hlt, ex.trans e3, us, e3 _ _ hus, ?_⟩
      rw [ft]
      show Paired _ _ (List.map f (_ ++ []))
      rw [List.append_nil]
      exact paired_mono (fun _ _ r => Enc.mono e3 r) pu
  · have hi2 : i = xs.length := by omega
    subst hi2
    rw [List.take_length] at pu
    refine .inl ⟨ok.stop H' ex, q _ H' (e1.trans ex) ⟨D, us, rfl, hus, ?_, pu⟩ ⟨D, rfl, Evl.fresh_back e1 hD⟩⟩
    show ((xs.filter p).map f).length ≤ LIM
    rw [List.length_map]
    exact Nat.le_trans (List.length_filter_le _ _) hlen
/-- without a test -/
theorem ev_lcA [Enc α] [Frz β] {wi : TI} {g : TG} {js vs : List Nat} {xs : List α} {T : α → Ctx} {f : α → β} (h : EvI K wi Γ xs) (hg : ∀ x, x ∈ xs → EvG K g js x (wipeC Γ vs) (T x))
    (he : ∀ x, x ∈ xs → Ev K te (T x) (f x)) (hj : ∀ k ∈ js, k ∈ vs := by decide) : EvN K (tLc wi g tYes te vs) Γ (Lst.mk (xs.map f)) := by
  have z := ev_lc (p := fun _ => true) h hg (fun _ _ => et_yes) (fun x hx _ => he x hx) hj
  have e : xs.filter (fun _ => true) = xs := List.filter_eq_self.mpr (fun _ _ => rfl)
  rw [e] at z
  exact z
end
end Dy
/-! ## Dl5 -/
namespace Dy
open PySem L2 PyProof.Rows
inductive Out (γ : Type) : Type 1 where
  | next (Γ : Ctx)
  | ret (y : γ) (Γ : Ctx)
def Post (K : Fg) {γ : Type} [Enc γ] (B F : Hp) (D : Ends) : Out γ → Prop
  | .next Γ' => ∀ σ' H', Kn K B F H' σ' Γ' → D.nx σ' H'
  | .ret y Γ' => ∀ v σ' H', Kn K B F H' σ' Γ' → Enc.R K H' v y → Enc.nw γ B v → D.rt v H'
def Run (K : Fg) {γ : Type} [Enc γ] (ts : TS) (Γ : Ctx) (o : Out γ) : Prop := ∀ B F σ H D, Kn K B F H σ Γ → Post K B F D o → ts D σ H
section
variable {α β γ δ : Type} [Enc γ] {K : Fg} {ta tb tc te tl : TE} {tt tu : TT} {t u rest : TS} {Γ Γ' Γ1 Γ2 Δ : Ctx} {a b : Bool} {i j : Int} {o : Out γ} {y : γ}
theorem r_seq (h1 : Run K t Γ (.next Γ1 : Out γ)) (h2 : Run K u Γ1 o) : Run K (tSeq t u) Γ o := fun B F σ H D k p => h1 B F σ H { D with nx := u D } k fun σ' H' k' => h2 B F σ' H' D k' p
theorem r_seqR (h1 : Run K t Γ (.ret y Δ)) : Run K (tSeq t u) Γ (.ret y Δ) := fun B F σ H D k p => h1 B F σ H { D with nx := u D } k p
theorem r_from (l : Le Γ Γ1) (h : Run K t Γ1 o) : Run K t Γ o := fun B F σ H D k p => h B F σ H D (k.le l) p
theorem r_le (h : Run K t Γ (.next Γ1 : Out γ)) (l : Le Γ1 Γ2) : Run K t Γ (.next Γ2 : Out γ) := fun B F σ H D k p => h B F σ H D k fun σ' H' k' => p σ' H' (k'.le l)
theorem r_if (h : EvT K tt Γ b) (h1 : b = true → Run K t Γ o) (h2 : b = false → Run K u Γ o) : Run K (tIfS tt t u) Γ o := fun B F σ H D k p => h B F σ H k _ fun H1 e => by
  cases b with
  | true => exact h1 rfl B F σ H1 D (k.mono e) p
  | false => exact h2 rfl B F σ H1 D (k.mono e) p
theorem r_next : Run K tNext Γ (.next Γ : Out γ) := fun B F σ H D k p => p σ H k
/-- an if, then the rest, either way -/
theorem r_ifS (h : EvT K tt Γ b) (h1 : b = true → Run K (tSeq t rest) Γ o) (h2 : b = false → Run K (tSeq u rest) Γ o) : Run K (tSeq (tIfS tt t u) rest) Γ o := fun B F σ H D k p => h B F σ H k _ fun H1 e => by
  cases b with
  | true => exact h1 rfl B F σ H1 D (k.mono e) p
  | false => exact h2 rfl B F σ H1 D (k.mono e) p
theorem r_skip (h : Run K rest Γ o) : Run K (tSeq tNext rest) Γ o := h
theorem r_asg [Enc α] {g : TG} {js : List Nat} {x : α} (h : Ev K te Γ x) (hg : EvG K g js x Γ Γ') : Run K (tAsg te g) Γ (.next Γ' : Out γ) := fun B F σ H D k p => h B F σ H k _ fun v H1 e r => hg B F σ H1 v (k.mono e) r _ fun σ' k' _ _ => p σ' H1 k'
theorem r_set [Kp α] {n : Nat} {x : α} (h : Ev K te Γ x) : Run K (tAsg te (gName n)) Γ (.next (Γ.set n (.fz x)) : Out γ) := r_asg h eg_name
theorem r_setE [Kp α] {n : Nat} {x : α} (h : EvE K te Γ x Γ1) : Run K (tAsg te (gName n)) Γ (.next (Γ1.set n (.fz x)) : Out γ) := fun B F σ H D k p => h B F σ H k _ fun v H1 k1 r => p _ H1 (k1.setF r)
theorem r_setA [Enc α] {n : Nat} {x : α} (h : Ev K te Γ x) : Run K (tAsg te (gName n)) Γ (.next (Γ.set n .any) : Out γ) := r_asg h eg_any
theorem r_setL [Frz α] {n : Nat} {xs : List α} (h : EvN K te Γ (Lst.mk xs)) : Run K (tAsg te (gName n)) Γ (.next (Γ.set n (.ow none (lstP xs))) : Out γ) := fun B F σ H D k p => h B F σ H k _ fun v H1 e r nw => by
  obtain ⟨q, hq, hn⟩ := nw
  subst hq
  obtain ⟨q', vs, e1, h2, h3, h4⟩ := r
  cases e1
  exact p _ H1 (k.setO e hn h2 ⟨vs, rfl, h3, h4⟩)
/-- a, b = e: two names take a list of ... -/
theorem r_mov {n m : Nat} {nm : Option Addr} {P : OwnP} (hm : Γ[m]? = some (.ow nm P)) (hne : n ≠ m := by decide) : Run K (tAsg (tVar m) (gName n)) Γ (.next ((Γ.set m .any).set n (.ow nm P)) : Out γ) := fun B F σ H D k p => by
  obtain ⟨l, o, h1, _, _, _, _, _⟩ := k.at_ m _ hm
  exact ⟨.ref l, h1, p _ H (k.move hne hm h1)⟩
theorem r_retN (h : EvN K te Γ y) : Run K (tRet te) Γ (.ret y []) := fun B F σ H D k p => h B F σ H k _ fun v H1 e r nw => p v σ H1 ((k.mono e).le .stop) r (Enc.nwm k.exB nw)
theorem r_ret [Kp δ] {z : δ} (h : Ev K te Γ z) : Run K (tRet te) Γ (.ret z []) := r_retN h.new
theorem r_retIs [Kp δ] {z z' : δ} (h : Ev K te Γ z) (e : z = z') : Run K (tRet te) Γ (.ret z' []) := e ▸ r_ret h
theorem r_retE [Kp δ] {z : δ} (h : EvE K te Γ z Γ') (l : Le Γ' Δ) : Run K (tRet te) Γ (.ret z Δ) := fun B F σ H D k p => h B F σ H k _ fun v H1 k1 r => p v σ H1 (k1.le l) r (Kp.nwT _ _)
theorem r_retV [Frz α] {n : Nat} {m : Option Addr} {xs : List α} (h : Γ[n]? = some (.ow m (lstP xs))) : Run K (tRet (tVar n)) Γ (.ret (Lst.mk xs) []) := fun B F σ H D k p => by
  obtain ⟨l, o, h1, _, hB, _, h4, h5⟩ := k.at_ n _ h
  exact ⟨.ref l, h1, p _ σ H (k.le .stop) (lstP_R h4 h5) ⟨l, rfl, hB⟩⟩
theorem r_drop [Enc α] {x : α} (h : Ev K te Γ x) : Run K (tDrop te) Γ (.next Γ : Out γ) := fun B F σ H D k p => h B F σ H k _ fun v H1 e r => p σ H1 (k.mono e)
theorem r_dropE [Enc α] {x : α} (h : EvE K te Γ x Γ') : Run K (tDrop te) Γ (.next Γ' : Out γ) := fun B F σ H D k p => h B F σ H k _ fun v H1 k1 r => p σ H1 k1
/-- xs.append(e) -/
theorem r_appE [Frz α] {n : Nat} {m m1 : Option Addr} {xs0 xs : List α} {x : α} (h0 : Γ[n]? = some (.ow m1 (lstP xs0))) (h : EvE K te Γ x Γ1) (hn : Γ1[n]? = some (.ow m (lstP xs))) (hl : xs.length < LIM) : Run K (tDrop (tBM K "list" rAppend (tVar n) (tCons te tNil))) Γ (.next (Γ1.set n (.ow m (lstP (xs ++ [x])))) : Out γ) := fun B F σ H D k p => by
  obtain ⟨l0, o0, g1, _, _, _, g4, g5⟩ := k.at_ n _ h0
  obtain ⟨us, rfl, _, _⟩ := g5
  refine ⟨.ref l0, g1, .inl ⟨rfl, us, SqL.of g4⟩, h B F σ H k _ fun v H1 k1 r => ?_⟩
  obtain ⟨l, o, h1, _, _, _, h4, h5⟩ := k1.at_ n _ hn
  rw [g1] at h1
  cases h1
  obtain ⟨vs, rfl, h6, h7⟩ := id h5
  have e := paired_len h7
  refine ⟨l0, vs, v, rfl, rfl, h4, lim_lt (by omega), p σ _ (k1.mut hn g1 ⟨vs ++ [v], rfl, ?_, ?_⟩)⟩
  · rw [List.length_append]
    exact hl
  · have kp : Keep H1 (upd H1 l0 (.lst (vs ++ [v]))) := keep_upd h4 rfl
    exact paired_append (paired_mono (fun _ _ r => Kp.keep kp r) h7) (.cons (Kp.keep kp r) .nil)
theorem r_app [Frz α] {n : Nat} {m : Option Addr} {xs : List α} {x : α} (hn : Γ[n]? = some (.ow m (lstP xs))) (h : Ev K te Γ x) (hl : xs.length < LIM) : Run K (tDrop (tBM K "list" rAppend (tVar n) (tCons te tNil))) Γ (.next (Γ.set n (.ow m (lstP (xs ++ [x])))) : Out γ) := r_appE hn h.pure hn hl
/-- xs[i] = e, 0 ≤ i -/
theorem r_setIx [Frz α] {n : Nat} {m : Option Addr} {xs : List α} {x : α} (h : EvE K te Γ x Γ1) (h' : EvE K tb Γ1 i Γ2) (hn1 : Γ1[n]? = some (.ow m (lstP xs))) (hn : Γ2[n]? = some (.ow m (lstP xs))) (hi : 0 ≤ i ∧ i < xs.length) :
    Run K (tAsg te (gSub (tVar n) tb rSetL)) Γ (.next (Γ2.set n (.ow m (lstP (xs.set i.toNat x)))) : Out γ) := fun B F σ H D k p => h B F σ H k _ fun v H1 k1 r => by
  obtain ⟨l0, o0, g1, _, _, _, g4, g5⟩ := k1.at_ n _ hn1
  refine ⟨.ref l0, g1, h' B (frz F H1) σ H1 k1.frz _ fun w H2 k2 r2 => ?_⟩
  obtain ⟨l, o, h1, _, _, _, h4, h5⟩ := k2.at_ n _ hn
  rw [g1] at h1
  cases h1
  obtain ⟨vs, rfl, h6, h7⟩ := id h5
  have e := paired_len h7
  have e2 : ixN vs.length i = some i.toNat := by
    unfold ixN
    rw [if_pos hi.1, if_pos (by rw [e]; exact hi.2)]
  have r3 : Enc.R K H2 v x := Enc.mono k2.exF (Kp.keep (frz_keep k1.exF) r)
  have kp : Keep H2 (upd H2 l0 (.lst (vs.set i.toNat v))) := keep_upd h4 rfl
  exact ⟨l0, vs, i, i.toNat, rfl, r2, h4, e2, p σ _ ((k2.mut (P' := lstP (xs.set i.toNat x)) hn g1 ⟨vs.set i.toNat v, rfl, by rw [List.length_set]; exact h6, paired_set (Kp.keep kp r3) _ (paired_mono (fun _ _ r => Kp.keep kp r) h7)⟩).unframe frz_F)⟩
/-- a loop: after each turn the state is told by what has been taken; a turn may return -/
theorem r_for [Enc α] {g : TG} {js : List Nat} {wi : TI} {xs : List α} {S : List α → Ctx} {T : List α → α → Ctx} {P : List α → Prop} (h : EvF K wi Γ xs) (h0 : Le Γ (S [])) (p0 : P [])
    (hg : ∀ pre x, EvG K g js x (S pre) (T pre x))
    (hb : ∀ pre x post, xs = pre ++ x :: post → P pre → Run K t (T pre x) (.ret y Δ) ∨ (P (pre ++ [x]) ∧ Run K t (T pre x) (.next (S (pre ++ [x])) : Out γ)))
    (hd : P xs → Run K rest (S xs) (.ret y Δ)) : Run K (tSeq (tFor wi g t) rest) Γ (.ret y Δ) := fun B F σ H D k p => h B F σ H k _ fun J H1 F' k1 eF ok => by
  refine ⟨fun n m σ' H' => m = xs.length - n ∧ n ≤ xs.length ∧ P (xs.take n) ∧ Kn K B F' H' σ' (S (xs.take n)), ⟨xs.length, by simp, Nat.zero_le _, by simpa using p0, by simpa using k1.le h0⟩, ?_⟩
  rintro n m σ' H' ⟨rfl, hn, hP, k2⟩
  by_cases hlt : n < xs.length
  · have hx := List.getElem?_eq_getElem hlt
    have hsplit : xs = xs.take n ++ xs[n] :: xs.drop (n + 1) := by simp
    have htake : xs.take (n + 1) = xs.take n ++ [xs[n]] := by simp
    refine .inr ⟨(ok.go n _ H' k2.exF hx).1, fun σ2 H2 => n + 1 ≤ xs.length ∧ P (xs.take (n + 1)) ∧ Kn K B F' H2 σ2 (S (xs.take (n + 1))), fun σ2 H2 z => ⟨xs.length - (n + 1), by omega, rfl, z⟩, fun v H2 yl => ?_⟩
    obtain ⟨rfl, r⟩ := (ok.go n _ H' k2.exF hx).2 v H2 yl
    refine hg _ _ B F' σ' H2 v k2 r _ fun σ3 k3 _ _ => ?_
    rcases hb _ _ _ hsplit hP with z | ⟨z1, z2⟩
    · exact z B F' σ3 H2 _ k3 fun v4 σ4 H4 k4 r4 n4 => p v4 σ4 H4 (k4.unframe eF) r4 n4
    · exact z2 B F' σ3 H2 _ k3 fun σ4 H4 k4 => ⟨hlt, by rw [htake]; exact z1, by rw [htake]; exact k4⟩
  · have hn2 : n = xs.length := by omega
    subst hn2
    rw [List.take_length] at hP k2
    exact .inl ⟨ok.stop H' k2.exF, hd hP B F σ' H' D (k2.unframe eF) p⟩
/-- a loop that never returns -/
theorem r_forN [Enc α] {g : TG} {js : List Nat} {wi : TI} {xs : List α} {S : List α → Ctx} {T : List α → α → Ctx} (h : EvF K wi Γ xs) (h0 : Le Γ (S []))
    (hg : ∀ pre x, EvG K g js x (S pre) (T pre x))
    (hb : ∀ pre x post, xs = pre ++ x :: post → Run K t (T pre x) (.next (S (pre ++ [x])) : Out γ)) : Run K (tFor wi g t) Γ (.next (S xs) : Out γ) := fun B F σ H D k p => h B F σ H k _ fun J H1 F' k1 eF ok => by
  refine ⟨fun n m σ' H' => m = xs.length - n ∧ n ≤ xs.length ∧ Kn K B F' H' σ' (S (xs.take n)), ⟨xs.length, by simp, Nat.zero_le _, by simpa using k1.le h0⟩, ?_⟩
  rintro n m σ' H' ⟨rfl, hn, k2⟩
  by_cases hlt : n < xs.length
  · have hx := List.getElem?_eq_getElem hlt
    have hsplit : xs = xs.take n ++ xs[n] :: xs.drop (n + 1) := by simp
    have htake : xs.take (n + 1) = xs.take n ++ [xs[n]] := by simp
    refine .inr ⟨(ok.go n _ H' k2.exF hx).1, fun σ2 H2 => n + 1 ≤ xs.length ∧ Kn K B F' H2 σ2 (S (xs.take (n + 1))), fun σ2 H2 z => ⟨xs.length - (n + 1), by omega, rfl, z⟩, fun v H2 yl => ?_⟩
    obtain ⟨rfl, r⟩ := (ok.go n _ H' k2.exF hx).2 v H2 yl
    refine hg _ _ B F' σ' H2 v k2 r _ fun σ3 k3 _ _ => ?_
    exact hb _ _ _ hsplit B F' σ3 H2 _ k3 fun σ4 H4 k4 => ⟨hlt, by rw [htake]; exact k4⟩
  · have hn2 : n = xs.length := by omega
    subst hn2
    rw [List.take_length] at k2
    exact .inl ⟨ok.stop H' k2.exF, p σ' H' (k2.unframe eF)⟩
/-- a while -/
theorem r_while {S : δ → Ctx} {Iv : δ → Prop} {μ : δ → Nat} {ts : δ → Bool} {s0 : δ} (h0 : Le Γ (S s0)) (i0 : Iv s0) (ht : ∀ s, Iv s → EvT K tt (S s) (ts s))
    (hb : ∀ s, Iv s → ts s = true → Run K t (S s) (.ret y Δ) ∨ ∃ s', Iv s' ∧ μ s' < μ s ∧ Run K t (S s) (.next (S s') : Out γ))
    (hd : ∀ s, Iv s → ts s = false → Run K rest (S s) (.ret y Δ)) : Run K (tSeq (tWhile tt t) rest) Γ (.ret y Δ) := fun B F σ H D k p => by
  refine ⟨fun m σ' H' => ∃ s, Iv s ∧ m = μ s ∧ Kn K B F H' σ' (S s), ⟨μ s0, s0, i0, rfl, k.le h0⟩, ?_⟩
  rintro m σ' H' ⟨s, hs, rfl, k2⟩
  refine ht s hs B F σ' H' k2 _ fun H2 e => ?_
  cases hts : ts s with
  | true =>
    rcases hb s hs hts with z | ⟨s', hs', hm, z⟩
    · exact ⟨fun _ _ => False, fun _ _ z => z.elim, z B F σ' H2 _ (k2.mono e) p⟩
    · exact ⟨fun σ3 H3 => Kn K B F H3 σ3 (S s'), fun σ3 H3 k3 => ⟨μ s', hm, s', hs', rfl, k3⟩, z B F σ' H2 _ (k2.mono e) fun σ3 H3 k3 => k3⟩
  | false =>
    exact hd s hs hts B F σ' H2 D (k2.mono e) p
end
/-! ### defs -/
class Par (α : Type) extends Enc α where
  ent : α → Ent
  ok : ∀ {K : Fg} {H F : Hp} {v : V} {x : α}, R K H v x → (ent x).ok K H F H (some (some v))
  noow : ∀ (x : α) n P, ent x ≠ .ow n P
instance (priority := low) {α : Type} [i : Kp α] : Par α where
  toEnc := i.toEnc
  ent x := .fz x
  ok r := ⟨_, rfl, r⟩
  noow _ _ _ z := nomatch z
instance {α : Type} [Frz α] : Par (Lst α) where
  ent x := .bs x
  ok r := ⟨_, rfl, r⟩
  noow _ _ _ z := nomatch z
instance {α : Type} [Frz α] : Par (Sq α) where
  ent x := .bs x
  ok r := ⟨_, rfl, r⟩
  noow _ _ _ z := nomatch z
instance : Par PyData where
  ent x := .bs x
  ok r := ⟨_, rfl, r⟩
  noow _ _ _ z := nomatch z
inductive Ents (K : Fg) (H : Hp) : List V → Ctx → Prop
  | nil : Ents K H [] []
  | cons {v : V} {vs : List V} {e : Ent} {Γ : Ctx} (h : e.ok K H (fun _ => none) H (some (some v))) (n : ∀ m P, e ≠ .ow m P) (t : Ents K H vs Γ) : Ents K H (v :: vs) (e :: Γ)
theorem Ents.at {K : Fg} {H : Hp} {vs : List V} {Γ : Ctx} (h : Ents K H vs Γ) : ∀ (i : Nat) (e : Ent), Γ[i]? = some e → (∀ m P, e ≠ .ow m P) ∧ ∃ v, vs[i]? = some v ∧ e.ok K H (fun _ => none) H (some (some v)) := by
  induction h with
  | nil =>
    intro i e z
    simp at z
  | cons h n t ih =>
    intro i e z
    cases i with
    | zero =>
      simp at z
      subst z
      exact ⟨n, _, rfl, h⟩
    | succ i => simpa using ih i e (by simpa using z)
theorem Ents.len {K : Fg} {H : Hp} {vs : List V} {Γ : Ctx} (h : Ents K H vs Γ) : vs.length = Γ.length := by
  induction h with
  | nil => rfl
  | cons _ _ _ ih => rw [List.length_cons, List.length_cons, ih]
def anys : Nat → Ctx
  | 0 => []
  | n + 1 => .any :: anys n
theorem anys_at : ∀ (n i : Nat) (e : Ent), (anys n)[i]? = some e → e = .any
  | 0, i, e, h => by simp [anys] at h
  | n + 1, 0, e, h => by simp [anys] at h; exact h.symm
  | n + 1, i + 1, e, h => anys_at n i e (by simpa [anys] using h)
theorem anys_len : ∀ n : Nat, (anys n).length = n
  | 0 => rfl
  | n + 1 => by rw [anys, List.length_cons, anys_len]
theorem kn_start {K : Fg} {H : Hp} {vs : List V} {Γ : Ctx} {N : List Str} (h : Ents K H vs Γ) (hl : vs.length ≤ N.length) : Kn K H (fun _ => none) H (L2.start N vs) (Γ ++ anys (N.length - vs.length)) where
  len := by
    unfold L2.start
    rw [List.length_append, List.length_append, anys_len, List.length_map, List.length_replicate, h.len]
    exact Nat.le_refl _
  exB := Evl.Ex.refl H
  exF := fun _ _ z => nomatch z
  at_ i e q := by
    by_cases hi : i < Γ.length
    · rw [List.getElem?_append_left hi] at q
      obtain ⟨_, v, hv, ho⟩ := h.at i e q
      have e2 : (L2.start N vs)[i]? = some (some v) := by
        unfold L2.start
        rw [List.getElem?_append_left (by rw [List.length_map, h.len]; exact hi), List.getElem?_map, hv]
        rfl
      rw [e2]
      exact ho
    · rw [List.getElem?_append_right (by omega)] at q
      rw [anys_at _ _ _ q]
      trivial
  dis i j l n n' P P' _ q1 _ _ _ := by
    by_cases hi : i < Γ.length
    · rw [List.getElem?_append_left hi] at q1
      exact (h.at i _ q1).1 _ _ rfl
    · rw [List.getElem?_append_right (by omega)] at q1
      cases anys_at _ _ _ q1
section
variable {α1 α2 α3 α4 α5 α6 α7 γ : Type}
/-- the promises, by how many arguments there are -/
def sp1 (K : Fg) [Enc α1] [Enc γ] (pre : α1 → Prop) (f : α1 → γ) : Sp := fnSp K fun vs H y => ∃ x1, PCons K x1 PNil vs H ∧ pre x1 ∧ y = f x1
def sp2 (K : Fg) [Enc α1] [Enc α2] [Enc γ] (pre : α1 → α2 → Prop) (f : α1 → α2 → γ) : Sp := fnSp K fun vs H y => ∃ x1 x2, PCons K x1 (PCons K x2 PNil) vs H ∧ pre x1 x2 ∧ y = f x1 x2
def sp3 (K : Fg) [Enc α1] [Enc α2] [Enc α3] [Enc γ] (pre : α1 → α2 → α3 → Prop) (f : α1 → α2 → α3 → γ) : Sp := fnSp K fun vs H y => ∃ x1 x2 x3, PCons K x1 (PCons K x2 (PCons K x3 PNil)) vs H ∧ pre x1 x2 x3 ∧ y = f x1 x2 x3
def sp4 (K : Fg) [Enc α1] [Enc α2] [Enc α3] [Enc α4] [Enc γ] (pre : α1 → α2 → α3 → α4 → Prop) (f : α1 → α2 → α3 → α4 → γ) : Sp := fnSp K fun vs H y => ∃ x1 x2 x3 x4, PCons K x1 (PCons K x2 (PCons K x3 (PCons K x4 PNil))) vs H ∧ pre x1 x2 x3 x4 ∧ y = f x1 x2 x3 x4
def sp5 (K : Fg) [Enc α1] [Enc α2] [Enc α3] [Enc α4] [Enc α5] [Enc γ] (pre : α1 → α2 → α3 → α4 → α5 → Prop) (f : α1 → α2 → α3 → α4 → α5 → γ) : Sp := fnSp K fun vs H y => ∃ x1 x2 x3 x4 x5, PCons K x1 (PCons K x2 (PCons K x3 (PCons K x4 (PCons K x5 PNil)))) vs H ∧ pre x1 x2 x3 x4 x5 ∧ y = f x1 x2 x3 x4 x5
def sp6 (K : Fg) [Enc α1] [Enc α2] [Enc α3] [Enc α4] [Enc α5] [Enc α6] [Enc γ] (pre : α1 → α2 → α3 → α4 → α5 → α6 → Prop) (f : α1 → α2 → α3 → α4 → α5 → α6 → γ) : Sp := fnSp K fun vs H y => ∃ x1 x2 x3 x4 x5 x6, PCons K x1 (PCons K x2 (PCons K x3 (PCons K x4 (PCons K x5 (PCons K x6 PNil))))) vs H ∧ pre x1 x2 x3 x4 x5 x6 ∧ y = f x1 x2 x3 x4 x5 x6
variable {K : Fg} {tr : TA} {E : XK} {Γ : Ctx} {x1 : α1} {x2 : α2} {x3 : α3} {x4 : α4} {x5 : α5} {x6 : α6}
theorem ev_sp1 [Enc α1] [Enc γ] {pre : α1 → Prop} {f : α1 → γ} (h : EvA K tr Γ (PCons K x1 PNil)) (hp : pre x1) : EvN K (tCall (sp1 K pre f) [] E tr) Γ (f x1) := ev_call h fun vs H p => ⟨x1, p, hp, rfl⟩
theorem ev_sp2 [Enc α1] [Enc α2] [Enc γ] {pre : α1 → α2 → Prop} {f : α1 → α2 → γ} (h : EvA K tr Γ (PCons K x1 (PCons K x2 PNil))) (hp : pre x1 x2) : EvN K (tCall (sp2 K pre f) [] E tr) Γ (f x1 x2) := ev_call h fun vs H p => ⟨x1, x2, p, hp, rfl⟩
theorem ev_sp3 [Enc α1] [Enc α2] [Enc α3] [Enc γ] {pre : α1 → α2 → α3 → Prop} {f : α1 → α2 → α3 → γ} (h : EvA K tr Γ (PCons K x1 (PCons K x2 (PCons K x3 PNil)))) (hp : pre x1 x2 x3) : EvN K (tCall (sp3 K pre f) [] E tr) Γ (f x1 x2 x3) := ev_call h fun vs H p => ⟨x1, x2, x3, p, hp, rfl⟩
theorem ev_sp4 [Enc α1] [Enc α2] [Enc α3] [Enc α4] [Enc γ] {pre : α1 → α2 → α3 → α4 → Prop} {f : α1 → α2 → α3 → α4 → γ} (h : EvA K tr Γ (PCons K x1 (PCons K x2 (PCons K x3 (PCons K x4 PNil))))) (hp : pre x1 x2 x3 x4) : EvN K (tCall (sp4 K pre f) [] E tr) Γ (f x1 x2 x3 x4) := ev_call h fun vs H p => ⟨x1, x2, x3, x4, p, hp, rfl⟩
theorem ev_sp5 [Enc α1] [Enc α2] [Enc α3] [Enc α4] [Enc α5] [Enc γ] {pre : α1 → α2 → α3 → α4 → α5 → Prop} {f : α1 → α2 → α3 → α4 → α5 → γ} (h : EvA K tr Γ (PCons K x1 (PCons K x2 (PCons K x3 (PCons K x4 (PCons K x5 PNil)))))) (hp : pre x1 x2 x3 x4 x5) : EvN K (tCall (sp5 K pre f) [] E tr) Γ (f x1 x2 x3 x4 x5) := ev_call h fun vs H p => ⟨x1, x2, x3, x4, x5, p, hp, rfl⟩
theorem ev_sp6 [Enc α1] [Enc α2] [Enc α3] [Enc α4] [Enc α5] [Enc α6] [Enc γ] {pre : α1 → α2 → α3 → α4 → α5 → α6 → Prop} {f : α1 → α2 → α3 → α4 → α5 → α6 → γ} (h : EvA K tr Γ (PCons K x1 (PCons K x2 (PCons K x3 (PCons K x4 (PCons K x5 (PCons K x6 PNil))))))) (hp : pre x1 x2 x3 x4 x5 x6) : EvN K (tCall (sp6 K pre f) [] E tr) Γ (f x1 x2 x3 x4 x5 x6) := ev_call h fun vs H p => ⟨x1, x2, x3, x4, x5, x6, p, hp, rfl⟩
end
/-! ### calls of the text's own defs -/
structure Cal (P : Program) (w : World) (K : Fg) (mg : Str → Option Value) (base : Heap) (k : Nat) (x : Str) (ps : List Str) (sp : Sp) : Prop where
  ex : ∃ f fd, FnOk P w K mg base CX0 k f fd ps sp ∧ mg x = some (.ref f) ∧ PySem.W.keepIn K (.ref f) = true ∧ Binds K fd ps []
theorem Cal.mono {P : Program} {w : World} {K : Fg} {mg : Str → Option Value} {base : Heap} {k k' : Nat} {x : Str} {ps : List Str} {sp : Sp} (c : Cal P w K mg base k x ps sp) (h : k ≤ k') : Cal P w K mg base k' x ps sp := by
  obtain ⟨f, fd, F, m, kp, b⟩ := c.ex
  exact ⟨f, fd, F.mono h, m, kp, b⟩
theorem pc {X : Cx} {k : Nat} {x : Str} {ps : List Str} {sp : Sp} {e : Expr} {es : List Expr} {t : TA} {p pos : Pos} (c : Cal X.prog X.w X.K X.mg X.base k x ps sp) (hr : Room k X.A) (hg : Gl X x) (ha : PA X (e :: es) t) (hdb : (x == ("__debug__" : Str)) = false := by decide)
    (he : starEach (e :: es) X.env = (false, eval e X.env) :: starEach es X.env := by rfl) (hpl : (backTo pos (starEach es X.env)).any (·.1) = false := by rfl) : PE X (.Call (.Name x p) (e :: es) [] pos) (tCall sp [] E0 t) := by
  obtain ⟨f, fd, F, m, kp, b⟩ := c.ex
  exact pe_call F hr hg m kp b .nil (fun _ _ _ _ _ _ _ h => h.elim) ha hdb he hpl
theorem par_bs {K : Fg} {H : Hp} {α : Type} [Par α] {v : V} {x : α} (r : Enc.R K H v x) : (Par.ent x).ok K H (fun _ => none) H (some (some v)) := Par.ok r
section
variable {P : Program} {w : World} {K : Fg} {mg : Str → Option Value} {base : Heap} {f : Addr} {fd : FuncData} {name qual : Str} {st : Stmt} {N : List Str} {k : Nat}
variable {α1 α2 α3 α4 α5 α6 γ : Type}
abbrev BodyOk (P : Program) (w : World) (K : Fg) (mg : Str → Option Value) (base : Heap) (N : List Str) (qual : Str) (st : Stmt) (f : Addr) (k : Nat) (good : TS → Prop) : Prop :=
  ∀ (cdv : Value) (A : Around) (outer : List Env) (s : Shared) (H : Hp) (E : XK), Room k (A.deeper (envOfC qual (defScope st) s.heap.objs.size f cdv)) → ∃ t, PSs (cxOf CX0 P w K mg base N qual (defScope st) f cdv A outer s H E).nox (defBody st) t ∧ good t
theorem go_run {K : Fg} [Enc γ] {t : TS} {vs : List V} {H : Hp} {Γ : Ctx} {y : γ} {Q : VK} (hl : vs.length ≤ N.length) (e : Ents K H vs Γ) (r : Run K t (Γ ++ anys (N.length - vs.length)) (.ret y [])) (q : ∀ v H', Ex H H' → Enc.R K H' v y → Enc.nw γ H v → Q v H') : t { nx := fun _ H' => Q .non H', rt := Q } (L2.start N vs) H :=
  r H (fun _ => none) (L2.start N vs) H _ (kn_start e hl) fun v σ' H' k' r' n' => q v H' k'.exB r' n'
abbrev FnP (K : Fg) (name qual : Str) (st : Stmt) (f : Addr) (fd : FuncData) : Prop := FunD K name qual (defArgs st) (defBody st) (defScope st) [] [] f fd
theorem fn1 [Par α1] [Enc γ] {p1 : Str} {pre : α1 → Prop} {g : α1 → γ} (F : FnP K name qual st f fd) (S : FnScope N [p1] (defScope st)) (hN : 1 ≤ N.length)
    (hb : BodyOk P w K mg base N qual st f k fun t => ∀ x1, pre x1 → Run K t ([Par.ent x1] ++ anys (N.length - 1)) (.ret (g x1) [])) : FnOk P w K mg base CX0 (k + 1) f fd [p1] (sp1 K pre g) := by
  refine F.ok S (fun vs H Q E h => ?_) (fun cdv A outer s H vs Q E hr h => ?_)
  · obtain ⟨_, ⟨_, ⟨_, _, rfl, _, rfl⟩, _⟩, _⟩ := h
    rfl
  · obtain ⟨t, h1, h2⟩ := hb cdv A outer s H E hr
    obtain ⟨y, ⟨x1, ⟨v1, _, rfl, r1, rfl⟩, hp, rfl⟩, q⟩ := h
    exact ⟨t, PSs.nox h1, go_run (Γ := [Par.ent x1]) hN (.cons (Par.ok r1) (Par.noow x1) .nil) (h2 x1 hp) q⟩
theorem fn2 [Par α1] [Par α2] [Enc γ] {p1 p2 : Str} {pre : α1 → α2 → Prop} {g : α1 → α2 → γ} (F : FnP K name qual st f fd) (S : FnScope N [p1, p2] (defScope st)) (hN : 2 ≤ N.length)
    (hb : BodyOk P w K mg base N qual st f k fun t => ∀ x1 x2, pre x1 x2 → Run K t ([Par.ent x1, Par.ent x2] ++ anys (N.length - 2)) (.ret (g x1 x2) [])) : FnOk P w K mg base CX0 (k + 1) f fd [p1, p2] (sp2 K pre g) := by
  refine F.ok S (fun vs H Q E h => ?_) (fun cdv A outer s H vs Q E hr h => ?_)
  · obtain ⟨_, ⟨_, _, ⟨_, _, rfl, _, _, _, rfl, _, rfl⟩, _⟩, _⟩ := h
    rfl
  · obtain ⟨t, h1, h2⟩ := hb cdv A outer s H E hr
    obtain ⟨y, ⟨x1, x2, ⟨v1, _, rfl, r1, v2, _, rfl, r2, rfl⟩, hp, rfl⟩, q⟩ := h
    exact ⟨t, PSs.nox h1, go_run (Γ := [Par.ent x1, Par.ent x2]) hN (.cons (Par.ok r1) (Par.noow x1) (.cons (Par.ok r2) (Par.noow x2) .nil)) (h2 x1 x2 hp) q⟩
theorem fn3 [Par α1] [Par α2] [Par α3] [Enc γ] {p1 p2 p3 : Str} {pre : α1 → α2 → α3 → Prop} {g : α1 → α2 → α3 → γ} (F : FnP K name qual st f fd) (S : FnScope N [p1, p2, p3] (defScope st)) (hN : 3 ≤ N.length)
    (hb : BodyOk P w K mg base N qual st f k fun t => ∀ x1 x2 x3, pre x1 x2 x3 → Run K t ([Par.ent x1, Par.ent x2, Par.ent x3] ++ anys (N.length - 3)) (.ret (g x1 x2 x3) [])) : FnOk P w K mg base CX0 (k + 1) f fd [p1, p2, p3] (sp3 K pre g) := by
  refine F.ok S (fun vs H Q E h => ?_) (fun cdv A outer s H vs Q E hr h => ?_)
  · obtain ⟨_, ⟨_, _, _, ⟨_, _, rfl, _, _, _, rfl, _, _, _, rfl, _, rfl⟩, _⟩, _⟩ := h
    rfl
  · obtain ⟨t, h1, h2⟩ := hb cdv A outer s H E hr
    obtain ⟨y, ⟨x1, x2, x3, ⟨v1, _, rfl, r1, v2, _, rfl, r2, v3, _, rfl, r3, rfl⟩, hp, rfl⟩, q⟩ := h
    exact ⟨t, PSs.nox h1, go_run (Γ := [Par.ent x1, Par.ent x2, Par.ent x3]) hN (.cons (Par.ok r1) (Par.noow x1) (.cons (Par.ok r2) (Par.noow x2) (.cons (Par.ok r3) (Par.noow x3) .nil))) (h2 x1 x2 x3 hp) q⟩
theorem fn4 [Par α1] [Par α2] [Par α3] [Par α4] [Enc γ] {p1 p2 p3 p4 : Str} {pre : α1 → α2 → α3 → α4 → Prop} {g : α1 → α2 → α3 → α4 → γ} (F : FnP K name qual st f fd) (S : FnScope N [p1, p2, p3, p4] (defScope st)) (hN : 4 ≤ N.length)
    (hb : BodyOk P w K mg base N qual st f k fun t => ∀ x1 x2 x3 x4, pre x1 x2 x3 x4 → Run K t ([Par.ent x1, Par.ent x2, Par.ent x3, Par.ent x4] ++ anys (N.length - 4)) (.ret (g x1 x2 x3 x4) [])) : FnOk P w K mg base CX0 (k + 1) f fd [p1, p2, p3, p4] (sp4 K pre g) := by
  refine F.ok S (fun vs H Q E h => ?_) (fun cdv A outer s H vs Q E hr h => ?_)
  · obtain ⟨_, ⟨_, _, _, _, ⟨_, _, rfl, _, _, _, rfl, _, _, _, rfl, _, _, _, rfl, _, rfl⟩, _⟩, _⟩ := h
    rfl
  · obtain ⟨t, h1, h2⟩ := hb cdv A outer s H E hr
    obtain ⟨y, ⟨x1, x2, x3, x4, ⟨v1, _, rfl, r1, v2, _, rfl, r2, v3, _, rfl, r3, v4, _, rfl, r4, rfl⟩, hp, rfl⟩, q⟩ := h
    exact ⟨t, PSs.nox h1, go_run (Γ := [Par.ent x1, Par.ent x2, Par.ent x3, Par.ent x4]) hN (.cons (Par.ok r1) (Par.noow x1) (.cons (Par.ok r2) (Par.noow x2) (.cons (Par.ok r3) (Par.noow x3) (.cons (Par.ok r4) (Par.noow x4) .nil)))) (h2 x1 x2 x3 x4 hp) q⟩
theorem fn5 [Par α1] [Par α2] [Par α3] [Par α4] [Par α5] [Enc γ] {p1 p2 p3 p4 p5 : Str} {pre : α1 → α2 → α3 → α4 → α5 → Prop} {g : α1 → α2 → α3 → α4 → α5 → γ} (F : FnP K name qual st f fd) (S : FnScope N [p1, p2, p3, p4, p5] (defScope st)) (hN : 5 ≤ N.length)
    (hb : BodyOk P w K mg base N qual st f k fun t => ∀ x1 x2 x3 x4 x5, pre x1 x2 x3 x4 x5 → Run K t ([Par.ent x1, Par.ent x2, Par.ent x3, Par.ent x4, Par.ent x5] ++ anys (N.length - 5)) (.ret (g x1 x2 x3 x4 x5) [])) : FnOk P w K mg base CX0 (k + 1) f fd [p1, p2, p3, p4, p5] (sp5 K pre g) := by
  refine F.ok S (fun vs H Q E h => ?_) (fun cdv A outer s H vs Q E hr h => ?_)
  · obtain ⟨_, ⟨_, _, _, _, _, ⟨_, _, rfl, _, _, _, rfl, _, _, _, rfl, _, _, _, rfl, _, _, _, rfl, _, rfl⟩, _⟩, _⟩ := h
    rfl
  · obtain ⟨t, h1, h2⟩ := hb cdv A outer s H E hr
    obtain ⟨y, ⟨x1, x2, x3, x4, x5, ⟨v1, _, rfl, r1, v2, _, rfl, r2, v3, _, rfl, r3, v4, _, rfl, r4, v5, _, rfl, r5, rfl⟩, hp, rfl⟩, q⟩ := h
    exact ⟨t, PSs.nox h1, go_run (Γ := [Par.ent x1, Par.ent x2, Par.ent x3, Par.ent x4, Par.ent x5]) hN (.cons (Par.ok r1) (Par.noow x1) (.cons (Par.ok r2) (Par.noow x2) (.cons (Par.ok r3) (Par.noow x3) (.cons (Par.ok r4) (Par.noow x4) (.cons (Par.ok r5) (Par.noow x5) .nil))))) (h2 x1 x2 x3 x4 x5 hp) q⟩
theorem fn6 [Par α1] [Par α2] [Par α3] [Par α4] [Par α5] [Par α6] [Enc γ] {p1 p2 p3 p4 p5 p6 : Str} {pre : α1 → α2 → α3 → α4 → α5 → α6 → Prop} {g : α1 → α2 → α3 → α4 → α5 → α6 → γ} (F : FnP K name qual st f fd) (S : FnScope N [p1, p2, p3, p4, p5, p6] (defScope st)) (hN : 6 ≤ N.length)
    (hb : BodyOk P w K mg base N qual st f k fun t => ∀ x1 x2 x3 x4 x5 x6, pre x1 x2 x3 x4 x5 x6 → Run K t ([Par.ent x1, Par.ent x2, Par.ent x3, Par.ent x4, Par.ent x5, Par.ent x6] ++ anys (N.length - 6)) (.ret (g x1 x2 x3 x4 x5 x6) [])) : FnOk P w K mg base CX0 (k + 1) f fd [p1, p2, p3, p4, p5, p6] (sp6 K pre g) := by
  refine F.ok S (fun vs H Q E h => ?_) (fun cdv A outer s H vs Q E hr h => ?_)
  · obtain ⟨_, ⟨_, _, _, _, _, _, ⟨_, _, rfl, _, _, _, rfl, _, _, _, rfl, _, _, _, rfl, _, _, _, rfl, _, _, _, rfl, _, rfl⟩, _⟩, _⟩ := h
    rfl
  · obtain ⟨t, h1, h2⟩ := hb cdv A outer s H E hr
    obtain ⟨y, ⟨x1, x2, x3, x4, x5, x6, ⟨v1, _, rfl, r1, v2, _, rfl, r2, v3, _, rfl, r3, v4, _, rfl, r4, v5, _, rfl, r5, v6, _, rfl, r6, rfl⟩, hp, rfl⟩, q⟩ := h
    exact ⟨t, PSs.nox h1, go_run (Γ := [Par.ent x1, Par.ent x2, Par.ent x3, Par.ent x4, Par.ent x5, Par.ent x6]) hN (.cons (Par.ok r1) (Par.noow x1) (.cons (Par.ok r2) (Par.noow x2) (.cons (Par.ok r3) (Par.noow x3) (.cons (Par.ok r4) (Par.noow x4) (.cons (Par.ok r5) (Par.noow x5) (.cons (Par.ok r6) (Par.noow x6) .nil)))))) (h2 x1 x2 x3 x4 x5 x6 hp) q⟩
end
end Dy
/-! ## Dl6 -/
namespace Dy
open PySem PySem.W PyProof.Rows PySem.Calls PySem.SeqAt
section
variable {prog : Program} {w : World} {A : Around} {s : Shared} {E : Value → Shared → Prop}
theorem tup_lt_call {Q : Value → Shared → Prop} {l b : Addr} {items items2 : Array Value} {e r : Nat → Bool} (hl : s.heap.IsTuple l items) (hb : s.heap.IsTuple b items2)
    (he : ∀ j (h1 : j < items.size) (h2 : j < items2.size), EqAt A.in1 s items[j] items2[j] (e j)) (hr :
            ∀ j (h1 : j < items.size) (h2 : j < items2.size), e j = false → RcLt A.in1 s items[j] items2[j] (r j))
    (h : Q (.bool (firstLt e r (decide (items.size < items2.size)) (List.range (min items.size items2.size)))) s) : wpAny (model prog w) A (call (.builtin "tuple.__lt__") [.ref l, .ref b]) Q E s := by
  obtain ⟨⟨c1, d1, t1, s1⟩, g1, g2, n, g3⟩ := id hl
  obtain ⟨⟨c2, d2, t2, s2⟩, k1, k2, m, k3⟩ := id hb
  simp only at g2 g3 k2 k3
  subst g2 g3 k2 k3
  exact call_meets F.slot_tuple_lt ⟨_, g1, rfl⟩ F.entry_tuple_lt (F.args_tuple_lt_2 _ _) (tuple_ltAt l b items items2 n m d1 d2 s1 s2 e r) ⟨g1, k1, he, hr, h⟩
theorem one_lt_tup {f : Bool} {xs ys : List PyData} {a b : Value} {as bs : List Addr} {Q : Bool → Shared → Prop} (ra : Reads s.heap a (.tuple xs) as) (rb : Reads s.heap b (.tuple ys) bs) (h : alike (.tuple xs) (.tuple ys) = true)
    (hu : A.units + min (PyData.depth (.tuple xs)) (PyData.depth (.tuple ys)) < cLine) (hq : Q (dataLt (.tuple xs) (.tuple ys)) s) : wpAny (model prog w) A (oneLt' f a b) Q E s := by
  cases f with
  | false => exact oneLt_alike (fun z => nomatch z) ra rb h (fun z => nomatch z) hu hq
  | true =>
    have hal : alikeAll xs ys = true
            := by simpa [alike] using h
    cases ra with
    | @tuple l o vs n _ as1 h1 h2 h3 h4 =>
      cases rb with
      | @tuple l' o' vs' n' _ bs1 k1 k2 k3 k4 =>
        have n1 : vs.size = xs.length :=
                by simpa using ReadsAll.length _ _ _ h4
        have n2 : vs'.size = ys.length :=
                by simpa using ReadsAll.length _ _ _ k4
        rw [dataLt_tuple, ← firstLt_toks xs ys hal, ← n1, ← n2] at hq
        rw [oneLt'_eq]
        simp only [if_true]
        refine wpAny_bind (wpAny_cRoomFor (SeqAt.room_here hu) ?_)
        refine wpAny_bind (wpAny_callSpecialIfBound?_slot (T := "tuple") ⟨_, h1, h2⟩ F.slot_tuple_lt (tup_lt_call (e := pairEq xs ys) (r := fun j => dataLt (xs.getD j .none) (ys.getD j .none)) ⟨_, h1, h2, _, h3⟩ ⟨_, k1, k2, _, k3⟩ (fun j j1 j2 => ?_) (fun j j1 j2 hj => ?_) ?_))
        · have z := eqAt_alikeAll xs ys A.in1 s vs.toList vs'.toList _ _ h4 k4 hal (room_in hu) j (by simpa using j1) (by simpa using j2)
          simpa using z
        · have z := rcLt_alikeAll xs ys A.in1 s vs.toList vs'.toList _ _ h4 k4 hal (room_in hu) j (by simpa using j1) (by simpa using j2) hj
          simpa using z
        · exact wpAny_truthy_bool hq
/-- the first item of a tuple, off the heap -/
def fstH (h : Heap) (v : Value) : Option Value := match v with
  | .ref a => match
          h.get? a with
    | some o => match o.data with
      | .seq xs _ => xs[0]?
      | _ => none
    | none => none
  | _ => none
def IsTp (h : Heap) (v : Value) : Prop := ∃ a o xs n, v = .ref a ∧ h.get? a = some o ∧ o.cls = .type "tuple" ∧ o.data = .seq xs n
theorem firsts_of : ∀ (vs : List Value) {Q : List (Option Value) → Shared → Prop}, (∀ v ∈ vs, IsTp s.heap v) → Q (vs.map (fstH s.heap)) s → wpAny (model prog w) A (vs.mapM firstOfTuple') Q E s
  | [], _, _, h => by
    rw [List.mapM_nil]
    exact wpAny_pure h
  | v :: vs, Q, t, h => by
    obtain ⟨a, o, xs, n, rfl, ho, hc, hd⟩ := t v (List.mem_cons_self ..)
    rw [List.mapM_cons]
    refine wpAny_bind ?_
    rw [kas_first_eq]
    refine wpAny_bind (Looks.here (show Looks _ s.heap (typeOf (.ref a)) o.cls from (Looks.ld ho).andThen .now) ?_)
    rw [hc, if_neg
            (by first | decide | simp)]
    refine wpAny_bind (listItems_at
            ho hd (wpAny_pure ?_))
    have e : fstH s.heap (.ref a) = xs[0]? := by
      unfold fstH
      simp only [ho, hd]
    rw [List.map_cons, e] at h
    exact wpAny_bind (firsts_of vs (Q := fun bs s' => wpAny (model prog w) A (pure (xs[0]? :: bs)) Q E s') (fun u hu => t u (List.mem_cons_of_mem _ hu)) (wpAny_pure h))
/-- which comparison: tuples, one of them empty -/
theorem kind_mixed {vs : List Value} {Q : SortKind → Shared → Prop} (h2 : 2 ≤ vs.length) (t : ∀ v ∈ vs, IsTp s.heap v) (he : ∃ v ∈ vs, fstH s.heap v = none) (h : Q (if (fstH s.heap (vs.headD .none)).isSome then general' else oneType') s) : wpAny (model prog w) A (keyKind' vs.toArray) Q E s := by
  obtain ⟨v1, v2, rest, rfl⟩ : ∃ v1 v2 rest, vs = v1 :: v2 :: rest := by
    match vs, h2 with
    | [], h2 => simp at h2
    | [_], h2 => simp at h2
    | a :: b :: r, _ => exact ⟨a, b, r, rfl⟩
  rw [kat_kind_eq, List.mapM_toArray,
          map_eq_pure_bind]
  refine wpAny_bind (wpAny_bind (firsts_of _ t (wpAny_pure ?_)))
  have hall : ((List.map (fstH s.heap) (v1 :: v2 :: rest)).toArray.all fun x => x.isSome) = false := by
    obtain ⟨v, hv, e⟩ := he
    rw [Bool.eq_false_iff]
    intro z
    rw [List.all_toArray, List.all_eq_true] at z
    have z2 := z _ (List.mem_map_of_mem hv)
    rw [e] at z2
    cases z2
  rw [if_neg (by rw [hall]; simp)]
  have h0 : (List.map (fstH s.heap) (v1 :: v2 :: rest)).toArray[0]? = some (fstH s.heap v1) := by simp
  rw [h0]
  have hh : (v1 :: v2 :: rest).headD .none = v1 := rfl
  rw [hh] at h
  show wpAny _ _ (if (fstH s.heap v1).isSome = true then _ else _) _ _ _
  cases hf : fstH s.heap v1 with
  | some f =>
    rw [hf] at h
    exact wpAny_pure h
  | none =>
    rw [hf] at h
    rw [if_neg (by simp)]
    rw [oneTypeOnly'_eq,
            List.mapM_toArray, map_eq_pure_bind]
    refine wpAny_bind (wpAny_bind (wpAny_bind (kas_mapM (r := Value.type "tuple") _ (fun v hv Q' hq => ?_) (wpAny_pure ?_))))
    · obtain ⟨a, o, xs, n, rfl, ho, hc, hd⟩ := t v hv
      exact Looks.here (show Looks _ s.heap (typeOf (.ref a)) (Value.type "tuple") from hc ▸ (Looks.ld ho).andThen .now) hq
    · have ha2 : ((List.map (fun _ => Value.type "tuple") (v1 :: v2 :: rest)).toArray.all fun x => x == Value.type "tuple") = true := by
        simp only [List.all_toArray,
                List.all_map, List.all_eq_true]
        intro _ _
        exact beq_self_eq_true _
      have h1 : (List.map (fun _ => Value.type "tuple") (v1 :: v2 :: rest)).toArray[0]? = some (Value.type "tuple") := by simp
      rw [h1]
      simp only [ha2, if_true]
      exact wpAny_pure
              (wpAny_pure h)
theorem isTp_reads {v : Value} {xs : List PyData} {as : List Addr} (r : Reads s.heap v (.tuple xs) as) : IsTp s.heap v ∧ (fstH s.heap v = none ↔ xs = []) := by
  cases r with
  | @tuple a o vs n _ _ h1 h2 h3 h4 =>
    refine ⟨⟨a, o, vs, n, rfl, h1, h2, h3⟩, ?_⟩
    have e : fstH s.heap (.ref a) = vs[0]? := by
      unfold fstH
      simp only [h1, h3]
    rw [e]
    have n1 : vs.size = xs.length :=
            by simpa using ReadsAll.length _ _ _ h4
    constructor
    · intro z
      have : vs.size ≤ 0 := by simpa using z
      exact List.eq_nil_of_length_eq_zero (by omega)
    · intro z
      subst z
      simp
      exact Array.eq_empty_of_size_eq_zero n1
theorem each_right {α β : Type} {R : α → β → Prop} : ∀ {as : List α} {bs : List β}, EachIs R as bs → ∀ b ∈ bs, ∃ a ∈ as, R a b
  | _, _, .nil, b, h => by simp at h
  | _, _, .cons r t, b, h => by
    rcases List.mem_cons.mp
            h with rfl | h
    · exact ⟨_, List.mem_cons_self .., r⟩
    · obtain ⟨a, ha, q⟩ := each_right t b h
      exact ⟨a, List.mem_cons_of_mem _ ha, q⟩
theorem sorts_tups {vs : List Value} {ds : List PyData} (e : EachIs (fun v d => ∃ as, Reads s.heap v d as) vs ds) (hal : AllAlike ds) (ht : ∀ d, d ∈ ds → ∃ xs, d = .tuple xs) (hu : ∀ d, d ∈ ds → A.units + d.depth < cLine) : SortsAt prog w A s (dataKind s.heap ds) vs := by
  by_cases hne : ∀ d, d ∈ ds → ∃ x r, d = .tuple (x :: r)
  · exact SortsAt.data e hal (.inl hne) hu
  have room : ∀ {d d' : PyData}, d ∈ ds → A.units + min d.depth d'.depth < cLine := fun
          {d d'} hd => Nat.lt_of_le_of_lt (Nat.add_le_add_left (Nat.min_le_left _ _) _) (hu d hd)
  have hemp : ∃ v ∈ vs, fstH s.heap v = none := by
    obtain ⟨d, hd⟩ := Classical.not_forall.mp hne
    obtain ⟨hd, hx⟩ := Classical.not_imp.mp hd
    obtain ⟨xs, rfl⟩ := ht d hd
    cases xs with
    | cons x r => exact absurd ⟨x, r, rfl⟩ hx
    | nil =>
      obtain ⟨v, hv, as, r⟩ := each_right e _ hd
      exact ⟨v, hv, (isTp_reads r).2.mpr rfl⟩
  have htp : ∀ v ∈ vs, IsTp s.heap v := fun v hv => by
    obtain ⟨d, hd, as,
            r⟩ := e.left v hv
    obtain ⟨xs, rfl⟩ := ht d hd
    exact (isTp_reads r).1
  have lt : ∀ (f : Bool) (E : Value → Shared → Prop) (x y : Value) (a b : List (Int ⊕ List Nat)) (Q : Bool → Shared → Prop), (dataKind s.heap ds).keyOf x = some a → (dataKind s.heap ds).keyOf y = some b → Q (PyProof.Rows.lexLt itemOrd a b) s → wpAny (model prog w) A (oneLt' f x y) Q E s := fun f E x y a b Q ha hb hq => by
    obtain ⟨d, as, hd, ra,
            rfl⟩ := dataKind_inv ha
    obtain ⟨d', as', hd', rb,
            rfl⟩ := dataKind_inv hb
    have h1 := hal d hd d' hd'
    obtain ⟨xs, rfl⟩ := ht d hd
    obtain ⟨ys, rfl⟩ := ht d' hd'
    exact one_lt_tup ra rb h1 (room hd) hq
  refine ⟨fun v hv => ?_, (if (fstH s.heap (vs.headD .none)).isSome then general' else oneType'), ?_, fun h2 E Q hq => kind_mixed h2 htp hemp hq⟩
  · obtain ⟨d, hd, as,
          r⟩ := e.left v hv
    exact ⟨_,
            dataKind_some hal hd r⟩
  · split
    · intro E x y a b Q ha hb hq
      exact lt false E x y a b Q ha hb hq
    · intro E x y a b Q ha hb hq
      rw [keyLt'_oneType]
      exact lt true E x y a b Q ha hb hq
end
end Dy
/-! ## Dl7 -/
namespace Dy
open PySem PySem.W PyProof.Rows PySem.Calls PySem.SeqAt
/-- a lot as data -/
def encI (ns : List Int) : PyData := .tuple (ns.map .int)
def sortT (xs : List (List Int)) : List (List Int) := xs.mergeSort (fun a b => decide (a ≤ b))
theorem encI_alike (a b : List Int) : alike (encI a) (encI b) = true := by
  show alike (.tuple (a.map .int)) (.tuple (b.map .int)) = true
  unfold alike
  exact alike_ints a b
theorem encI_depth (a : List Int) : (encI a).depth = 1 := by
  show PyData.depth (.tuple (a.map .int)) = 1
  rw [PyData.depth, depth_ints]
theorem encI_le {β : Type} (x : β → List Int) : dataLe false (fun b => encI (x b)) = fun p q => decide (x p ≤ x q) := by
  funext p q
  show (!dataLt (encI (x q)) (encI (x p))) = _
  unfold encI
  rw [dataLt_tuple]
  show (!rowLt ((x q).map
          .int) ((x p).map .int)) = _
  rw [dataLt_ints]
  by_cases h : x q < x p
  · have h2 : ¬ x p ≤ x q := fun z => z h
    rw [decide_eq_true h, decide_eq_false h2]
    rfl
  · have h2 : x p ≤ x q := h
    rw [decide_eq_false h, decide_eq_true h2]
    rfl
theorem sortT_eq (xs : List (List Int)) : xs.mergeSort (dataLe false encI) = sortT xs := by
  have e := encI_le (fun x : List Int => x)
  show xs.mergeSort (dataLe false fun b => encI b) = _
  rw [e]
  rfl
section
variable {prog : Program} {w : World} {A : Around} {s : Shared} {E : Value → Shared → Prop} {R : Value → List Int → Prop}
theorem sorts_lots {A : Around} {s : Shared} {vs : List Value} {bs : List (List Int)} (er : EachIs (fun v b => ∃ as, Reads s.heap v (encI b) as) vs bs) (hu : A.units + 1 < cLine) : SortsAt prog w A s (dataKind s.heap (bs.map encI)) vs :=
  sorts_tups (each_map (R := fun v d => ∃ as, Reads s.heap v d as) encI er) (AllAlike.of encI_alike) (fun d hd => by
    obtain ⟨b, _, rfl⟩ :=
            List.mem_map.mp hd
    exact ⟨_, rfl⟩) fun d hd => by
    obtain ⟨b, _, rfl⟩ :=
            List.mem_map.mp hd
    rw [encI_depth]
    exact hu
theorem sorted_lots {l : Addr} {vs : List Value} {bs : List (List Int)} {Q : Value → Shared → Prop} (hl : s.heap.IsList l vs.toArray) (e : EachIs R vs bs) (er : EachIs (fun v b => ∃ as, Reads s.heap v (encI b) as) vs bs) (hL : bs.length ≤ sizeLine)
    (hu : A.units + 3 < cLine) (h : ∀ out, out.length = bs.length → EachIs R out (sortT bs) → Q (.ref (s.heap.objs.size + 1)) { s with heap := sortedAll s.heap vs (List.toArray out) }) :
    wpAny (model prog w) A (call (.builtin
            "sorted") [.ref l]) Q E s := by
  have er' : EachIs (fun v b => ∃ as, Reads (sortingHeap (copyHeap s.heap vs) (s.heap.objs.size + 1) vs) v (encI b) as) vs bs := er.mono fun _ _ ⟨as, r⟩ => ⟨as, PyProof.Rows.Reads.keeps (fun _ _ => sorting_copy_old) r⟩
  refine sorted_vals hl (sorts_lots (s := { s with heap := sortingHeap (copyHeap s.heap vs) (s.heap.objs.size + 1) vs }) er' (by show A.units + 2 + 1 < cLine; omega)) (by rw [e.length]; exact hL) (h _ (by rw [sortVals_length false rfl]; exact e.length) ?_)
  have z := sortVals_data false e er' (AllAlike.of encI_alike)
  rw [sortT_eq] at z
  exact z
theorem list_sort_lots {a : Addr} {vs : List Value} {bs : List (List Int)} {n : Nat} {Q : Value → Shared → Prop} (ho : s.heap.get? a = some (seqObj "list" vs.toArray n)) (e : EachIs R vs bs) (er : ∀ h' : Heap, (∀ b o, b ≠ a → s.heap.get? b = some o → h'.get? b = some o) → EachIs (fun v b => ∃ as, Reads h' v (encI b) as) vs bs) (hL : bs.length ≤ sizeLine)
    (hu : A.units + 2 < cLine) (h : ∀ out : List Value, out.length = bs.length → EachIs R out (sortT bs) → Q .none { s with heap := sortedHeap s.heap a vs out.toArray }) :
    wpAny (model prog w) A (call (.builtin
            "list.sort") [.ref a]) Q E s := by
  have er' := er (sortingHeap s.heap a vs) fun b o hb hz => sortingHeap_old hb hz
  refine wpAny_call_entry slot_list_sort ⟨_, ho, rfl⟩ entry_list_sort ?_ (args_list_sort _)
  refine list_sort_vals ho (sorts_lots (s := { s with heap := sortingHeap s.heap a vs }) er' (by show A.units + 1 + 1 < cLine; omega)) (by rw [e.length]; exact hL) ⟨_, rfl, h _ (by rw [sortVals_length false rfl]; exact e.length) ?_⟩
  have z := sortVals_data false e er' (AllAlike.of encI_alike)
  rw [sortT_eq] at z
  exact z
end
end Dy
namespace Dy
open PySem L2 PyProof.Rows
def rSortT (K : Fg) : List V → Hp → VK → Prop := fun vs H Q => ∃ (a : Addr) (xs : List V) (nss : List (List Int)), vs = [V.ref a] ∧ SqL K H a xs ∧ nss.length ≤ LIM ∧ Paired (TupI K H) xs nss ∧ ∀ ys p, Paired (TupI K H) ys (sortT nss) → H p = none → Q (.ref p) (upd H p (.lst ys))
theorem dp_ints {K : Fg} {H : Hp} : ∀ ns : List Int, DpAll K H (ns.map V.int) (ns.map PyData.int)
  | [] => .nil
  | n :: ns => .cons (.int n) (dp_ints ns)
theorem tupI_dp {K : Fg} {H : Hp} {x : V} {ns : List Int} (h : TupI K H x ns) : Dp K H x (encI ns) := by
  obtain ⟨t, rfl, h⟩ := h
  exact .tup h (dp_ints ns)
theorem each_of_pairs {X : Cx} {pins : List (Addr × Obj)} {σ : L2.St} {H : Hp} {s : Shared} (I : Inv X pins σ H s) : ∀ {xs : List V} {us : List Value} {nss : List (List Int)}, Paired (TupI X.K H) xs nss → Vals xs us →
    PySem.W.EachIs (fun u ns => ∃ t, u = Value.ref t ∧ SqT X.K H t (ns.map V.int)) us nss ∧ PySem.W.EachIs (fun v b => ∃ as, Reads s.heap v (encI b) as) us nss
  | _, _, _, .nil, .nil => ⟨.nil, .nil⟩
  | _, _, _, .cons h t, .cons r rt => by
    obtain ⟨e1, e2⟩ := each_of_pairs I t rt
    obtain ⟨as, q⟩ := Dp.reads I _ _ _ (tupI_dp h) r
    obtain ⟨p, rfl, hp⟩ := h
    cases r
    exact ⟨.cons ⟨p, rfl, hp⟩ e1, .cons ⟨as, q⟩ e2⟩
theorem vals_of_each {K : Fg} {H : Hp} : ∀ {us : List Value} {nss : List (List Int)}, PySem.W.EachIs (fun u ns => ∃ t, u = Value.ref t ∧ SqT K H t (ns.map V.int)) us nss → ∃ ys, Vals ys us ∧ Paired (TupI K H) ys nss
  | _, _, .nil => ⟨[], .nil, .nil⟩
  | _, _, .cons ⟨t, e, h⟩ r => by
    obtain ⟨ys, h1, h2⟩ := vals_of_each r
    subst e
    exact ⟨.ref t :: ys, .cons rfl h1, .cons ⟨t, rfl, h⟩ h2⟩
theorem sortT_len (xs : List (List Int)) : (sortT xs).length = xs.length := List.length_mergeSort _
theorem cr_sortT' {X : Cx} (hu : X.A.units + 64 < cLine) : CallR X (.builtin "sorted") (rSortT X.K) := by
  intro pins s σ
          H vs us Q I r h
  obtain ⟨a, xs, nss, rfl, hs, hl, hp, q⟩ := h
  obtain ⟨its, rv, hL, _⟩ := I.list hs
  rw [Vals.ref1 r]
  obtain ⟨e1, e2⟩ := each_of_pairs I hp rv
  refine sorted_lots hL.isList e1 e2 (lim_le hl) (by omega) fun out hlen eo => ?_
  obtain ⟨ys, h1, h2⟩ := vals_of_each eo
  obtain ⟨ep, he'⟩ := PyProof.Rows.sortedAll_at
          s.heap its out.toArray
  have hlen2 : ys.length ≤ sizeLine := by
    rw [paired_len h2, sortT_len]
    exact lim_le hl
  exact ⟨.ref _, upd H (s.heap.objs.size + 1) (.lst ys), I.laid (t' := s.toks) (fun _ _ => PyProof.Rows.sortedAll_old) (Nat.le_succ _) ⟨hlen2, out, ep, h1, he'⟩, rfl, q ys _ h2 (I.hok.fresh (Nat.le_succ _))⟩
end Dy
/-! ## Dl8 -/
namespace Dy
open PySem L2 PyProof.Rows
/-! ### sorted(set(xs)) -/
theorem perm_lift {α β : Type} {f : α → β} : ∀ {us : List β} {L : List α}, us.Perm (L.map f) → ∃ L1 : List α, L1.Perm L ∧ L1.map f = us
  | [], L, h => by
    have e : L.map f = [] := List.nil_perm.mp h
    have e2 : L = [] := by simpa using e
    subst e2
    exact ⟨[], .nil, rfl⟩
  | u :: us, L, h => by
    have hu : u ∈ L.map f := h.mem_iff.mp (List.mem_cons_self ..)
    obtain ⟨q, hq, e⟩ := List.mem_map.mp hu
    obtain ⟨A, B, e2⟩ := List.append_of_mem hq
    subst e2
    have h2 : us.Perm ((A ++ B).map f) := by
      have h3 : (u :: us).Perm (u :: (A ++ B).map f) := by
        refine h.trans ?_
        rw [List.map_append, List.map_cons, List.map_append, e]
        exact List.perm_middle
      exact h3.cons_inv
    obtain ⟨L1, p1, e3⟩ := perm_lift h2
    exact ⟨q :: L1, (p1.cons q).trans List.perm_middle.symm, by rw [List.map_cons, e3, e]⟩
theorem lot_trans (a b c : List Int) : a ≤ b → b ≤ c → a ≤ c := fun h1 h2 => List.le_trans h1 h2
theorem sortT_pw (xs : List (List Int)) : (sortT xs).Pairwise (· ≤ ·) := by
  have := List.pairwise_mergeSort (le := fun a b : List Int => decide (a ≤ b)) (by intro a b c; simp only [decide_eq_true_eq]; exact lot_trans a b c) (by intro a b; simp only [Bool.or_eq_true, decide_eq_true_eq]; exact List.le_total a b) xs
  exact this.imp (by intro a b h; simpa using h)
theorem sortT_unique {xs ys : List (List Int)} (h1 : ys.Perm xs) (h2 : ys.Pairwise (· ≤ ·)) : ys = sortT xs :=
  (h1.trans (List.mergeSort_perm _ _).symm).eq_of_pairwise (fun a b _ _ h3 h4 => List.le_antisymm h3 h4) h2 (sortT_pw xs)
theorem sortT_perm {xs ys : List (List Int)} (h : xs.Perm ys) : sortT xs = sortT ys := sortT_unique ((List.mergeSort_perm _ _).trans h) (sortT_pw xs)
/-- each of them once -/
def dd : List (List Int) → List (List Int)
  | [] => []
  | x :: xs => if x ∈ dd xs then dd xs else x :: dd xs
theorem mem_dd {x : List Int} : ∀ {xs : List (List Int)}, x ∈ dd xs ↔ x ∈ xs
  | [] => Iff.rfl
  | y :: ys => by
    unfold dd
    split
    · rename_i h
      rw [mem_dd, List.mem_cons]
      refine ⟨.inr, fun z => z.elim (fun e => ?_) id⟩
      rw [e]
      exact mem_dd.mp h
    · rw [List.mem_cons, List.mem_cons, mem_dd]
theorem dd_nodup : ∀ xs : List (List Int), (dd xs).Nodup
  | [] => List.nodup_nil
  | y :: ys => by
    unfold dd
    split
    · exact dd_nodup ys
    · rename_i h
      exact List.nodup_cons.mpr ⟨h, dd_nodup ys⟩
def ssort (xs : List (List Int)) : List (List Int) := sortT (dd xs)
theorem ssort_unique {xs ms : List (List Int)} (h1 : ms.Nodup) (h2 : ∀ x, x ∈ ms ↔ x ∈ xs) : sortT ms = ssort xs :=
  sortT_perm ((List.perm_ext_iff_of_nodup h1 (dd_nodup xs)).mpr fun x => (h2 x).trans mem_dd.symm)
section
variable {P : Program} {w : World} {A : Around}
        {E : Value → Shared → Prop} {s : Shared}
theorem reads_isT {h : Heap} {k : List Int} {b : Addr} (x : IsT P w h k b) : ∃ as, Reads h (.ref b) (encI k) as := by
  obtain ⟨o, items, n,
          ho, hc, hd, hi⟩ := x
  have ri : ∀ {vs : List Value} {ks : List Int}, IntsAre vs ks → ReadsAll h vs (ks.map PyData.int) [] := by
    intro vs ks z
    induction z with
    | nil => exact .nil
    | cons k t _ ih => exact .cons (as := []) (.int k t) ih
  exact ⟨[], .tuple ho hc hd (ri (ints_of_items hi))⟩
theorem sorted_set_any {a : Addr} {L : List (Addr × List Int)} {es : Array (Int × Value)} {ep : Nat} {t : SetTable} {Q : Value → Shared → Prop} (R : SetTR P w s.heap a L es ep t) (hh : A.handled = none) (hu : A.units + 64 < cLine)
    (hQ : ∀ s' p (out : List Value) (c : Nat), (∀ b o, s.heap.get? b = some o → s'.heap.get? b = some o) → s'.gens = s.gens → s'.os = s.os → s.heap.objs.size ≤ p →
      s'.heap.get? p = some (seqObj "list" out.toArray c) → PySem.W.EachIs (fun u ns => ∃ q ∈ L, u = Value.ref q.1 ∧ ns = q.2) out (sortT (L.map (·.2))) → Q (.ref p) s') :
    wpAny (model P w) A (call (.builtin
            "sorted") [.ref a]) Q E s := by
  obtain ⟨o, ho,
          hex, hd⟩ := R.ob
  have n1 := R.size
  have n2 := R.few
  refine Calls.call_function_entry kind_sorted
          plain_sorted entry_sorted (args_sorted1 _) ?_
  unfold Builtin.«sorted»
  refine wpAny_bind (m := checkCount
          "sorted" 1 1 _) (wpAny_pure ?_)
  refine wpAny_bind (collect_set (A := A.in1) hh ⟨o, ho, hex.1, hd⟩ R.fits
          (by unfold scanBound; omega) R.tab.ris R.led fun s1 vs k1 hz g1 o1 pm => ?_)
  have hes : es.toList.map (·.2) =
          L.map fun q => Value.ref q.1 := by
    rw [R.rows]
    unfold rowsOf
    rw [List.map_map]
    rfl
  rw [hes] at pm
  obtain ⟨L1, pL, rfl⟩ := perm_lift pm
  have hlen : L1.length < 64 := by rw [pL.length_eq]; exact n2
  refine wpAny_bind (wpAny_newList ?_ (by rw [List.length_map, sizeLine_eq]; omega))
  have hoL : (s1.heap.push (seqObj "list" (L1.map fun q => Value.ref q.1).toArray 0)).get? s1.heap.objs.size = some (seqObj "list" (L1.map fun q => Value.ref q.1).toArray 0) := Heap.get?_push_size _ rfl
  have each : ∀ {F : Value → List Int → Prop} (M : List (Addr × List Int)), (∀ q ∈ M, F (.ref q.1) q.2) → PySem.W.EachIs F (M.map fun q => Value.ref q.1) (M.map (·.2)) := by
    intro F M
    induction M with
    | nil => intro _; exact .nil
    | cons q M ih => exact fun h => .cons (h q (List.mem_cons_self ..)) (ih fun r hr => h r (List.mem_cons_of_mem _ hr))
  have hin : ∀ q ∈ L1, q ∈ L := fun q hq => pL.mem_iff.mp hq
  have e1 : PySem.W.EachIs (fun u ns => ∃ q ∈ L, u = Value.ref q.1 ∧ ns = q.2) (L1.map fun q => Value.ref q.1) (L1.map (·.2)) := each L1 fun q hq => ⟨q, hin q hq, rfl, rfl⟩
  refine wpAny_bind (wpAny_holding (list_sort_lots (s := { s1 with heap := s1.heap.push (seqObj "list" (L1.map fun q => Value.ref q.1).toArray 0) }) hoL e1 (fun h' kp => each L1 fun q hq => ?_) (by rw [List.length_map, sizeLine_eq]; omega) (by show A.units + 1 + 2 < cLine; omega) fun out a1 a2 => ?_))
  · have x := isT_keep (R.tup q (hin q hq)) k1
    have lt1 : q.1 < s1.heap.objs.size := by
      obtain ⟨o2, _, _, ho2, _⟩ := x
      exact Heap.lt_size ho2
    refine reads_isT (P := P) (w := w) (k := q.2) ?_
    obtain ⟨o2, items, n, ho2, r⟩ := x
    exact ⟨o2, items, n, kp _ _ (Nat.ne_of_lt lt1) (Heap.get?_push_of_some _ ho2), r⟩
  obtain ⟨c, hc⟩ := sortedHeap_at (vs := L1.map fun q => Value.ref q.1) (out := out.toArray) hoL
  rw [sortT_perm (pL.map (·.2))] at a2
  refine wpAny_pure ⟨_, rfl, hQ _ s1.heap.objs.size out c (fun b u e => ?_) g1 o1 hz hc a2⟩
  have q := k1 b u e
  have hlt := Heap.lt_size q
  show (sortedHeap (s1.heap.push (seqObj "list" (L1.map fun q => Value.ref q.1).toArray 0)) s1.heap.objs.size (L1.map fun q => Value.ref q.1) out.toArray).get? b = some u
  rw [sortedHeap_old (Nat.ne_of_lt hlt)
          (by rw [size_push']; exact Nat.lt_succ_of_lt hlt)]
  exact
          Heap.get?_push_of_some _ q
end
def rSortM (K : Fg) (P : Program) (w : World) : List V → Hp → VK → Prop := fun vs H Q => ∃ (a : Addr) (L : List (Addr × List Int)), vs = [V.ref a] ∧ H a = some (SetTO P w a L) ∧ (∀ p ∈ L, SqT K H p.1 (p.2.map V.int)) ∧
  ∀ ys p, (L.map (·.2)).Nodup → Paired (TupI K H) ys (sortT (L.map (·.2))) → H p = none → Q (.ref p) (upd H p (.lst ys))
theorem cr_sortM {X : Cx} (hc : X.calm = true) (hu : X.A.units + 64 < cLine) : CallR X (.builtin "sorted") (rSortM X.K X.prog X.w) := by
  intro pins s σ
          H vs us Q I r h
  obtain ⟨a, L, rfl, ha, hk, q⟩ := h
  have R0 : SetT0 X.prog X.w
          s.heap a L := (I.hok a _ ha).1
  obtain ⟨es, ep, t, R⟩ := R0.full
          fun p hp => I.isT (hk p hp)
  rw [Vals.ref1 r]
  refine sorted_set_any R (I.ok.hd hc) hu fun s' p out c k g o hp hg ev => ?_
  have ev2 : PySem.W.EachIs (fun u ns => ∃ t, u = Value.ref t ∧ SqT X.K H t (ns.map V.int)) out (sortT (L.map (·.2))) := ev.mono fun u ns ⟨q, hq, e1, e2⟩ => ⟨q.1, e1, by rw [e2]; exact hk q hq⟩
  obtain ⟨ys, hv, hy⟩ := vals_of_each ev2
  have hlen : ys.length ≤ sizeLine := by
    rw [paired_len hy, sortT_len, List.length_map, sizeLine_eq]
    have := R.few
    omega
  have hn : H p = none
          := I.hok.fresh hp
  have J : Inv X pins σ (upd H p (.lst ys)) { s with heap := s'.heap, gens := s'.gens, drawn := s'.drawn, toks := s'.toks } :=
    I.call (ch := []) (Un.laid k hp hn) (I.hok.laid k hp ⟨hlen, out, c, hv, hg⟩) (by rw [g]; exact I.bare) (fun _ z => nomatch z)
  have same : s' = { s with heap := s'.heap, gens := s'.gens, drawn := s'.drawn, toks := s'.toks } := by
    cases s'
    cases s
    cases o
    rfl
  rw [same]
  exact ⟨.ref p, _, J, rfl, q ys p R.nd hy hn⟩
theorem pairs_ks {K : Fg} {H : Hp} : ∀ {xs : List V} {nss : List (List Int)}, Paired (TupI K H) xs nss → ∃ ks : List (Addr × List Int), xs = ks.map (fun p => V.ref p.1) ∧ nss = ks.map (·.2) ∧ ∀ p ∈ ks, SqT K H p.1 (p.2.map V.int)
  | _, _, .nil => ⟨[], rfl, rfl, fun p hp => nomatch hp⟩
  | _, _, .cons (b := ns) ⟨t, e, h⟩ r => by
    obtain ⟨ks, h1, h2, h3⟩ := pairs_ks r
    refine ⟨(t, ns) :: ks, by rw [List.map_cons, h1, e], by rw [List.map_cons, h2], fun p hp => ?_⟩
    rcases List.mem_cons.mp
            hp with rfl | hp
    · exact h
    · exact h3 p hp
def tSortSet (K : Fg) (P : Program) (w : World) (te : TE) : TE := tCB (rSortM K P w) (tCons (tCB (rSetOfT K P w) (tCons te tNil)) tNil)
/-- a wire as a lot -/
def pl (p : Int × Int) : List Int := [p.1, p.2]
def lp (l : List Int) : Int × Int := (l.headD 0, l.tail.headD 0)
theorem lp_pl (p : Int × Int) : lp (pl p) = p := rfl
def ssortW (ps : List (Int × Int)) : List (Int × Int) := (ssort (ps.map pl)).map lp
def sortW (ps : List (Int × Int)) : List (Int × Int) := (sortT (ps.map pl)).map lp
theorem mem_ssort {x : List Int} {xs : List (List Int)} : x ∈ ssort xs ↔ x ∈ xs := (List.mergeSort_perm _ _).mem_iff.trans mem_dd
theorem mem_sortT {x : List Int} {xs : List (List Int)} : x ∈ sortT xs ↔ x ∈ xs := (List.mergeSort_perm _ _).mem_iff
theorem map_pl_lp {ls : List (List Int)} {ps : List (Int × Int)} (h : ∀ l ∈ ls, l ∈ ps.map pl) : (ls.map lp).map pl = ls := by
  rw [List.map_map]
  have e : ∀ l ∈ ls, (pl ∘ lp) l = l := fun l hl => by
    obtain ⟨p, _, e⟩ := List.mem_map.mp (h l hl)
    subst e
    rfl
  rw [List.map_congr_left e, List.map_id']
theorem ssortW_pl (ps : List (Int × Int)) : (ssortW ps).map pl = ssort (ps.map pl) := map_pl_lp fun l hl => mem_ssort.mp hl
theorem sortW_pl (ps : List (Int × Int)) : (sortW ps).map pl = sortT (ps.map pl) := map_pl_lp fun l hl => mem_sortT.mp hl
section
variable {K : Fg} {Γ : Ctx} {te : TE} {P : Program} {w : World}
theorem r_tupI {H : Hp} : ∀ {vs : List V} {xs : List (List Int)}, Paired (Enc.R K H) vs xs → Paired (TupI K H) vs xs
  | _, _, .nil => .nil
  | _, _, .cons ⟨a, us, e, h, _, p⟩ t => .cons ⟨a, e, by rw [← paired_int p]; exact h⟩ (r_tupI t)
theorem r_tupW {H : Hp} : ∀ {vs : List V} {xs : List (Int × Int)}, Paired (Enc.R K H) vs xs → Paired (TupI K H) vs (xs.map pl)
  | _, _, .nil => .nil
  | _, _, .cons ⟨a, v1, v2, e, h, p1, p2⟩ t => .cons ⟨a, e, by rw [show v1 = _ from p1, show v2 = _ from p2] at h; exact h⟩ (r_tupW t)
theorem tupI_r {H : Hp} : ∀ {vs : List V} {xs : List (List Int)}, Paired (TupI K H) vs xs → (∀ x ∈ xs, x.length ≤ LIM) → Paired (Enc.R K H) vs xs
  | _, _, .nil, _ => .nil
  | _, _, .cons ⟨a, e, h⟩ t, l => .cons ⟨a, _, e, h, l _ (List.mem_cons_self ..), int_paired _⟩ (tupI_r t fun x hx => l x (List.mem_cons_of_mem _ hx))
theorem tupW_r {H : Hp} : ∀ {vs : List V} {xs : List (Int × Int)}, Paired (TupI K H) vs (xs.map pl) → Paired (Enc.R K H) vs xs
  | _, [], h => by
    cases h
    exact .nil
  | _, x :: xs, h => by
    cases h with
    | cons r t =>
      obtain ⟨a, e, h⟩ := r
      exact .cons ⟨a, _, _, e, h, rfl, rfl⟩ (tupW_r t)
theorem paired_all {α : Type} [Frz α] {H : Hp} : ∀ {vs : List V} {xs : List (List α)}, Paired (Enc.R K H) vs xs → ∀ x ∈ xs, x.length ≤ LIM
  | _, _, .nil, x, h => nomatch h
  | _, _, .cons ⟨_, _, _, _, hl, _⟩ t, x, h => by
    rcases List.mem_cons.mp
            h with rfl | h
    · exact hl
    · exact paired_all t x h
theorem dd_len : ∀ xs : List (List Int), (dd xs).length ≤ xs.length
  | [] => Nat.le_refl _
  | x :: xs => by
    unfold dd
    have := dd_len xs
    split
    · exact Nat.le_succ_of_le this
    · exact Nat.succ_le_succ this
theorem ssort_len (xs : List (List Int)) : (ssort xs).length ≤ xs.length := by
  unfold ssort
  rw [sortT_len]
  exact dd_len xs
theorem tupI_ex {H H' : Hp} (e : Ex H H') {vs : List V} {xs : List (List Int)} (h : Paired (TupI K H) vs xs) : Paired (TupI K H') vs xs := paired_mono (fun _ _ ⟨t, e1, h1⟩ => ⟨t, e1, Evl.ex_t e h1⟩) h
theorem sset_core {xs : List (List Int)} {H : Hp} {a : Addr} {vs : List V} {Q : VK} (h : H a = some (.lst vs)) (hp : Paired (TupI K H) vs xs) (h64 : xs.length < 64)
    (q : ∀ p ys H', Ex H H' → H p = none → H' p = some (.lst ys) → Paired (TupI K H') ys (ssort xs) → Q (.ref p) H') : rSetOfT K P w [.ref a] H fun x H1 => rSortM K P w [x] H1 Q := by
  obtain ⟨ks, e1, e2, hk⟩ := pairs_ks hp
  subst e1 e2
  refine ⟨a, ks, rfl, SqL.of h, hk, by simpa using h64, fun b L hb h1 h2 => ⟨b, L, rfl, upd_same, fun p hp => Evl.ex_t (Evl.Ex.new hb) (hk p (h1 p hp)), fun ys p nd hy hn => ?_⟩⟩
  have e3 : sortT (L.map (·.2)) = ssort (ks.map (·.2)) := ssort_unique nd fun x => ⟨fun hx => by
    obtain ⟨q, hq, e⟩ := List.mem_map.mp hx
    exact List.mem_map.mpr ⟨q, h1 q hq, e⟩, fun hx => by
    obtain ⟨q, hq, e⟩ := List.mem_map.mp hx
    rw [← e]
    exact h2 q hq⟩
  rw [e3] at hy
  have ex2 : Ex H (upd (upd H b (SetTO P w b L)) p (.lst ys)) := (Evl.Ex.new hb).trans (Evl.Ex.new hn)
  exact q p ys _ ex2 (Evl.fresh_back (Evl.Ex.new hb) hn) upd_same (tupI_ex (Evl.Ex.new hn) hy)
theorem ev_sortSet {xs : List (List Int)} (h : Ev K te Γ (Lst.mk xs)) (h64 : xs.length < 64) : EvN K (tSortSet K P w te) Γ (Lst.mk (ssort xs)) := fun B F σ H k Q q => h B F σ H k _ fun v H1 e r => by
  obtain ⟨a, vs, rfl, h2, h3, h4⟩ := r
  refine sset_core h2 (r_tupI h4) h64 fun p ys H' e2 hn hp hy => q _ _ (e.trans e2) ⟨p, ys, rfl, hp, Nat.le_trans (ssort_len _) h3, tupI_r hy fun x hx => paired_all h4 x (mem_ssort.mp hx)⟩ ⟨p, rfl, Evl.fresh_back e hn⟩
theorem ev_sortSetW {xs : List (Int × Int)} (h : Ev K te Γ (Lst.mk xs)) (h64 : xs.length < 64) : EvN K (tSortSet K P w te) Γ (Lst.mk (ssortW xs)) := fun B F σ H k Q q => h B F σ H k _ fun v H1 e r => by
  obtain ⟨a, vs, rfl, h2, h3, h4⟩ := r
  refine sset_core h2 (r_tupW h4) (by simpa using h64) fun p ys H' e2 hn hp hy => ?_
  rw [← ssortW_pl] at hy
  refine q _ _ (e.trans e2) ⟨p, ys, rfl, hp, ?_, tupW_r hy⟩ ⟨p, rfl, Evl.fresh_back e hn⟩
  show (ssortW xs).length ≤ LIM
  unfold ssortW
  rw [List.length_map]
  refine Nat.le_trans (ssort_len _) ?_
  rw [List.length_map]
  exact h3
end
end Dy
/-! ## Dl15 -/
namespace Dy
open PySem L2 PyProof.Rows PySem.Spec
/-! ### sorted(t), t a tuple of lots -/
section
variable {P : Program} {w : World} {A : Around} {E : Value → Shared → Prop} {s : Shared} {R : Value → List Int → Prop}
theorem collect_tup {l : Addr} {o : Obj} {items : Array Value} {n : Nat} {Q : List Value → Shared → Prop} (ho : s.heap.get? l = some o) (hc : o.cls = .type "tuple") (hd : o.data = .seq items n) (sz : items.size ≤ sizeLine)
    (hQ : ∀ h' : Heap, (∀ b u, s.heap.get? b = some u → h'.get? b = some u) → s.heap.objs.size ≤ h'.objs.size → Q items.toList { s with heap := h' }) : wpAny (model P w) A (collect (.ref l)) Q E s := by
  let g : Heap := s.heap.push { cls := .type "list", data := .seq ([] : List Value).toArray }
  let g2 : Heap := g.update s.heap.objs.size (Obj.mapSeq (· ++ items))
  have q1 : g.get? s.heap.objs.size = some { cls := .type "list", data := .seq #[] 0 } := Heap.get?_push_size _ rfl
  have q2 := Heap.get?_update_self (Obj.mapSeq (· ++ items)) q1 rfl
  have gz : s.heap.objs.size ≤ g2.objs.size := Nat.le_of_lt (Heap.lt_size q2)
  have gk : ∀ b u, s.heap.get? b = some u → g2.get? b = some u := fun b u z => (Heap.get?_update_other _ _ (Nat.ne_of_gt (Heap.lt_size z))).trans (Heap.get?_push_of_some _ z)
  have ei : ((#[] : Array Value) ++ items).toList = items.toList := by simp
  unfold collect
  apply wpAny_bind
  apply wpAny_runValue
  apply codeAny_builtin F.entry_proto_collect
  rw [Around.under_plainId F.plain_proto_collect]
  apply wpAny_bind (m := newList [])
  refine wpAny_newObj_type (wpAny_pure ?_)
  refine ⟨plainId_quiet F.plain_list_iadd _, ?_⟩
  apply codeAny_builtin F.entry_list_iadd
  rw [Around.under_plainId F.plain_list_iadd]
  have fin : wpAny (model P w) A (match Value.ref s.heap.objs.size with
      | Value.ref a => (do
        let r ← load a
        match r.data with
        | Data.seq xs _
                => pure xs.toList
        | _ => unsupported "internal:collect" : Sem (List Value))
      | _ => unsupported "internal:collect") Q E { s with heap := g2 } := by
    apply wpAny_bind (m := load s.heap.objs.size)
    apply wpAny_load q2
    apply wpAny_pure
    have z := hQ g2 gk gz
    rw [← ei] at z
    exact z
  refine wpAny_mono (wpAny_extend_seq (hsz := sz) (A := A) (R := fun r u => r = .ok (.ret (.ref s.heap.objs.size)) ∧ u = { s with heap := g2 }) (s := { s with heap := g }) _ l _ 0 (.inr rfl) q1 (Heap.get?_push_of_some _ ho) hc hd ⟨rfl, rfl⟩) (fun f u h => ?_) fun x u h => absurd h.1 (by simp)
  cases f with
  | done f =>
    obtain ⟨e1, e2⟩ := h
    subst e2
    cases e1
    exact fin
  | again c => exact ⟨h.1, codeAny_mono h.2 fun r u hr => by
      obtain ⟨e1, e2⟩ := hr
      subst e1 e2
      exact fin⟩
theorem sorted_tup {l : Addr} {items : Array Value} {bs : List (List Int)} {Q : Value → Shared → Prop} (hl : s.heap.IsTuple l items) (e : PySem.W.EachIs R items.toList bs) (er : PySem.W.EachIs (fun v b => ∃ as, Reads s.heap v (encI b) as) items.toList bs) (hL : bs.length ≤ sizeLine) (hu : A.units + 64 < cLine)
    (hQ : ∀ (h' : Heap) p (out : List Value) (c : Nat), (∀ b o, s.heap.get? b = some o → h'.get? b = some o) → s.heap.objs.size ≤ p → h'.get? p = some (seqObj "list" out.toArray c) → out.length = bs.length → PySem.W.EachIs R out (sortT bs) → Q (.ref p) { s with heap := h' }) :
    wpAny (model P w) A (call (.builtin "sorted") [.ref l]) Q E s := by
  obtain ⟨o, ho,
          hc, n, hd⟩ := hl
  have en : items.toList.length = bs.length := e.length
  have sz : items.size ≤ sizeLine := by
    rw [← Array.length_toList, en]
    exact hL
  refine Calls.call_function_entry kind_sorted
          plain_sorted entry_sorted (args_sorted1 _) ?_
  unfold Builtin.«sorted»
  apply wpAny_bind (m := checkCount "sorted" 1 1 _)
  apply wpAny_pure
  apply wpAny_bind
  refine collect_tup ho hc hd sz fun h1 k1 grow1 => ?_
  apply wpAny_bind
  refine wpAny_newList ?_ (by rw [en]; exact hL)
  have hoL : (h1.push (seqObj "list" items.toList.toArray 0)).get? h1.objs.size = some (seqObj "list" items.toList.toArray 0) := Heap.get?_push_size _ rfl
  apply wpAny_bind
  refine wpAny_holding (list_sort_lots (s := { s with heap := h1.push (seqObj "list" items.toList.toArray 0) }) hoL e (fun h' kp => ?_) hL (by show A.units + 1 + 2 < cLine; omega) fun out a1 a2 => ?_)
  · refine er.mono fun v b ⟨as, r⟩ => ⟨as, PyProof.Rows.Reads.keeps (fun c u z => ?_) r⟩
    have z1 := k1 c u z
    exact kp c u (Nat.ne_of_lt (Heap.lt_size z1)) (Heap.get?_push_of_some _ z1)
  obtain ⟨c, hc2⟩ := sortedHeap_at (vs := items.toList) (out := out.toArray) hoL
  refine wpAny_pure ⟨_, rfl, hQ _ h1.objs.size out c (fun b u z => ?_) grow1 hc2 a1 a2⟩
  have q := k1 b u z
  have hlt := Heap.lt_size q
  show (sortedHeap (h1.push (seqObj "list" items.toList.toArray 0)) h1.objs.size items.toList out.toArray).get? b = some u
  rw [sortedHeap_old (Nat.ne_of_lt hlt)
          (by rw [size_push']; exact Nat.lt_succ_of_lt hlt)]
  exact
          Heap.get?_push_of_some _ q
end
def rSortTt (K : Fg) : List V → Hp → VK → Prop := fun vs H Q => ∃ (a : Addr) (xs : List V) (nss : List (List Int)), vs = [V.ref a] ∧ SqT K H a xs ∧ nss.length ≤ LIM ∧ Paired (TupI K H) xs nss ∧ ∀ ys p, Paired (TupI K H) ys (sortT nss) → H p = none → Q (.ref p) (upd H p (.lst ys))
theorem cr_sortTt {X : Cx} (hu : X.A.units + 64 < cLine) : CallR X (.builtin "sorted") (rSortTt X.K) := by
  intro pins s σ H vs us Q I r ⟨a, xs, nss, e, hs, hl, hp, q⟩
  subst e
  obtain ⟨its, rv, hT, hz⟩ := I.tuple hs
  rw [Vals.ref1 r]
  obtain ⟨e1, e2⟩ := each_of_pairs I hp rv
  refine sorted_tup (items := its.toArray) (show s.heap.IsTuple a its.toArray from hT) e1 e2 (lim_le hl) hu fun h' p out c k hpz hg hlen eo => ?_
  obtain ⟨ys, h1, h2⟩ := vals_of_each eo
  have hlen2 : ys.length ≤ sizeLine := by
    rw [paired_len h2, sortT_len]
    exact lim_le hl
  exact ⟨.ref p, upd H p (.lst ys), I.laid (t' := s.toks) k hpz ⟨hlen2, out, c, h1, hg⟩, rfl, q ys p h2 (I.hok.fresh hpz)⟩
section
variable {K : Fg} {Γ : Ctx} {te : TE}
/-! sorted of ints, of lots -/
def rSortU (K : Fg) : List V → Hp → VK → Prop := fun vs H Q => rSortedI K vs H Q ∨ rSortT K vs H Q ∨ rSortTt K vs H Q
theorem cr_sortU {X : Cx} (hu : X.A.units + 64 < cLine) : CallR X (.builtin "sorted") (rSortU X.K) := by
  intro pins s σ
          H vs us Q I r h
  rcases h with h | h | h
  · exact cr_sortedI pins s σ H vs us Q I r h
  · exact cr_sortT' hu pins s σ H vs us Q I r h
  · exact cr_sortTt hu pins s σ H vs us Q I r h
theorem ev_sortUI {xs : List Int} (ha : Ev K te Γ (Lst.mk xs)) : EvN K (tCB (rSortU K) (tCons te tNil)) Γ (Lst.mk (sortI xs)) := fun B F σ H k Q q => ev_sortI ha B F σ H k Q q |> fun _ => ha B F σ H k _ fun v H1 e r => by
  obtain ⟨p, vs, rfl, h2, h3, h4⟩ := r
  rw [paired_int h4] at h2
  refine .inl ⟨p, xs, rfl, SqL.of h2, fun ns l hp hs hl => q _ _ (e.trans (Evl.Ex.new hl)) ⟨l, _, rfl, upd_same, ?_, ?_⟩ ⟨l, rfl, Evl.fresh_back e hl⟩⟩
  · show (sortI xs).length ≤ LIM
    rw [sortI_len]
    exact h3
  · rw [← sortI_unique hp hs]
    exact int_paired ns
theorem ev_sortUT {xs : List (List Int)} (ha : Ev K te Γ (Lst.mk xs)) : EvN K (tCB (rSortU K) (tCons te tNil)) Γ (Lst.mk (sortT xs)) := fun B F σ H k Q q => ha B F σ H k _ fun v H1 e r => by
  obtain ⟨p, vs, rfl, h2, h3, h4⟩ := r
  refine .inr (.inl ⟨p, vs, xs, rfl, SqL.of h2, h3, r_tupI h4, fun ys l hy hl => q _ _ (e.trans (Evl.Ex.new hl)) ⟨l, ys, rfl, upd_same, ?_, tupI_r (tupI_ex (Evl.Ex.new hl) hy) fun x hx => paired_all h4 x (mem_sortT.mp hx)⟩ ⟨l, rfl, Evl.fresh_back e hl⟩⟩)
  show (sortT xs).length ≤ LIM
  rw [sortT_len]
  exact h3
/-- .. of a tuple -/
theorem ev_sortUTt {xs : List (List Int)} (ha : Ev K te Γ xs) : EvN K (tCB (rSortU K) (tCons te tNil)) Γ (Lst.mk (sortT xs)) := fun B F σ H k Q q => ha B F σ H k _ fun v H1 e r => by
  obtain ⟨p, vs, rfl, h2, h3, h4⟩ := r
  refine .inr (.inr ⟨p, vs, xs, rfl, h2, h3, r_tupI h4, fun ys l hy hl => q _ _ (e.trans (Evl.Ex.new hl)) ⟨l, ys, rfl, upd_same, ?_, tupI_r (tupI_ex (Evl.Ex.new hl) hy) fun x hx => paired_all h4 x (mem_sortT.mp hx)⟩ ⟨l, rfl, Evl.fresh_back e hl⟩⟩)
  show (sortT xs).length ≤ LIM
  rw [sortT_len]
  exact h3
end
end Dy
/-! ## Dl9 -/
namespace Dy
open PySem L2 PyProof.Rows
/-! ### repr -/
def rRepr (K : Fg) : List V → Hp → VK → Prop := fun vs H Q => ∃ (x : V) (d : PyData), vs = [x] ∧ Dp K H x d ∧ d.showable = true ∧ d.canLay0 = true ∧ d.depth ≤ 60 ∧ d.shown.length ≤ sizeLine ∧ (∀ i, d ≠ .int i) ∧ (∀ s, d ≠ .str s) ∧ d ≠ .none ∧ Q (.str d.shown) H
theorem cr_repr {X : Cx} (hG : X.A.guards = some []) (hu : X.A.units + 64 < cLine) : CallR X (.builtin "repr") (rRepr X.K) := by
  intro pins s σ
          H vs us Q I r h
  obtain ⟨x, d, rfl, hd, h1, h2, h3, h4, h5, h6, h7, q⟩ := h
  obtain ⟨u, rfl, ru⟩ := Vals.one r
  obtain ⟨as, rd⟩ := Dp.reads I d x u hd ru
  have hnd := PyData.hasDict_of_canLay d h2
  have core : ∀ a, u = .ref a → wpAny (model X.prog X.w) X.A (call (.builtin "repr") [u]) (EP X pins σ Q) X.xe s := fun a e => by
    subst e
    refine repr_of_reads' rd h1 (PyData.noDict_hsm hnd) hG (by omega) (fun _ _ e => e) (fun h' v tk hk => ?_) h4
    exact ⟨.str d.shown, H, I.kept (t' := tk) hk, ⟨v, rfl⟩, q⟩
  cases rd with
  | none => exact absurd rfl h7
  | bool b =>
    refine PySem.P.repr_of_bool ⟨.str _, H, I.tok _, ⟨_, rfl⟩, ?_⟩
    simpa only [PyData.shown] using q
  | int i t => exact absurd rfl (h5 i)
  | str z t => exact absurd rfl (h6 z)
  | list => exact core _ rfl
  | tuple => exact core _ rfl
  | dict => simp [PyData.canLay0] at h2
/-- shown in at most so many signs -/
def Sh (d : PyData) (n : Nat) : Prop := d.leavesShort 8 = true ∧ d.showable = true ∧ d.weight ≤ n
theorem sh_int {i : Int} (h1 : -1000 ≤ i) (h2 : i ≤ 1000) : Sh (.int i) 11 := by
  have key : ∀ k : Fin 2001, (PyData.leavesShort 8 (.int ((k.val : Int) - 1000)) && PyData.showable (.int ((k.val : Int) - 1000)) && decide (PyData.weight (.int ((k.val : Int) - 1000)) ≤ 11)) = true := by decide +kernel
  have z := key ⟨(i + 1000).toNat, by omega⟩
  have e : (((i + 1000).toNat : Nat) : Int) - 1000 = i := by omega
  simp only [e, Bool.and_eq_true, decide_eq_true_eq] at z
  exact ⟨z.1.1, z.1.2, z.2⟩
theorem sh_bool (b : Bool) : Sh (.bool b) 0 := by
  cases b <;> exact ⟨by decide +kernel, by decide +kernel, by decide +kernel⟩
theorem sh_all {n : Nat} : ∀ xs : List PyData, (∀ x ∈ xs, Sh x n) → PyData.leavesShortAll 8 xs = true ∧ PyData.showableAll xs = true ∧ PyData.weightAll xs ≤ xs.length * (n + 1)
  | [], _ => ⟨by simp [PyData.leavesShortAll], by simp [PyData.showableAll], by simp [PyData.weightAll]⟩
  | x :: xs, h => by
    obtain ⟨a1, a2, a3⟩ := h x (List.mem_cons_self ..)
    obtain ⟨b1, b2, b3⟩ := sh_all xs fun y hy => h y (List.mem_cons_of_mem _ hy)
    refine ⟨by simp [PyData.leavesShortAll, a1, b1], by simp [PyData.showableAll, a2, b2], ?_⟩
    have e : (xs.length + 1) * (n + 1) = xs.length * (n + 1) + (n + 1) := Nat.succ_mul _ _
    simp only [PyData.weightAll, List.length_cons]
    rw [e]
    omega
theorem sh_tup {n m : Nat} {xs : List PyData} (h : ∀ x ∈ xs, Sh x n) (hl : xs.length ≤ m) : Sh (.tuple xs) (m * (n + 1)) := by
  obtain ⟨a, b, c⟩ := sh_all xs h
  refine ⟨by simpa [PyData.leavesShort] using a, by simpa [PyData.showable] using b, ?_⟩
  simp only [PyData.weight]
  exact Nat.le_trans c (Nat.mul_le_mul_right _ hl)
theorem sh_list {n m : Nat} {xs : List PyData} (h : ∀ x ∈ xs, Sh x n) (hl : xs.length ≤ m) : Sh (.list xs) (m * (n + 1)) := by
  obtain ⟨a, b, c⟩ := sh_all xs h
  refine ⟨by simpa [PyData.leavesShort] using a, by simpa [PyData.showable] using b, ?_⟩
  simp only [PyData.weight]
  exact Nat.le_trans c (Nat.mul_le_mul_right _ hl)
theorem Sh.le {d : PyData} {n m : Nat} (h : Sh d n) (hm : n ≤ m) : Sh d m := ⟨h.1, h.2.1, Nat.le_trans h.2.2 hm⟩
theorem Sh.fits {d : PyData} {n : Nat} (h : Sh d n) (hn : n ≤ 1048576) : d.shown.length ≤ sizeLine := PyData.shown_fits (B := 8) (by decide) (by decide) h.1 (Nat.le_trans h.2.2 (by simpa using hn))
/-- a text -/
instance : Enc Str where
  R _ _ v x := v = .str x
  mono _ h := h
  nw _ _ := True
  nwm _ h := h
section
variable {α β γ : Type} {K : Fg} {ta tb tc te : TE} {tt tu : TT} {Γ Γ' : Ctx} {a b : Bool} {i j : Int}
theorem ev_reprP {d : PyData} {n : Nat} (h : Ev K te Γ d) (hs : Sh d n) (hn : n ≤ 1048576) (hl : d.canLay0 = true) (hd : d.depth ≤ 60) (h5 : ∀ i, d ≠ .int i) (h6 : ∀ s, d ≠ .str s) (h7 : d ≠ .none) : Ev K (tCB (rRepr K) (tCons te tNil)) Γ d.shown := fun B F σ H k Q q => h B F σ H k _ fun v H' e r =>
  ⟨v, d, rfl, r, hs.2.1, hl, hd, hs.fits hn, h5, h6, h7, q _ H' e rfl⟩
theorem ev_repr [Dat α] {x : α} {n : Nat} (h : Ev K te Γ x) (hs : Sh (Dat.d x) n) (hn : n ≤ 1048576) (h5 : ∀ i, Dat.d x ≠ .int i) (h6 : ∀ s, Dat.d x ≠ .str s) (h7 : Dat.d x ≠ .none) (hd : Dat.dep α ≤ 60 := by decide) : Ev K (tCB (rRepr K) (tCons te tNil)) Γ (Dat.d x).shown :=
  ev_reprP h.dat hs hn (Dat.lay x) (Nat.le_trans (Dat.depth x) hd) h5 h6 h7
/-! texts compared -/
def rEqU (K : Fg) : R2 := orR (rEqD K) rEq
def rNeU (K : Fg) : R2 := orR (rNeD K) rNe
theorem op_eqU {X : Cx} (hu : X.A.units + 64 < cLine) : OpR X (compareOp .Eq) (rEqU X.K) := orOp (op_eqD hu) op_eq
theorem op_neU {X : Cx} (hu : X.A.units + 64 < cLine) : OpR X (compareOp .NotEq) (rNeU X.K) := orOp (op_neD hu) op_ne
theorem ev_eqU [Dat α] [DecidableEq α] {x y : α} (ha : Ev K ta Γ x) (hb : Ev K tb Γ y) (hd : Dat.dep α ≤ 64 := by decide) : Ev K (tOp (rEqU K) ta tb) Γ (decide (x = y)) := ev_op2 ha hb fun v u H Q r1 r2 q => .inl ⟨Dat.d x, Dat.d y, Dat.dp r1, Dat.dp r2, Dat.shaped x hd, Dat.shaped y hd, q _ H (Evl.Ex.refl H) (by rw [Dat.eqv]; exact rfl)⟩
theorem ev_neU [Dat α] [DecidableEq α] {x y : α} (ha : Ev K ta Γ x) (hb : Ev K tb Γ y) (hd : Dat.dep α ≤ 64 := by decide) : Ev K (tOp (rNeU K) ta tb) Γ (!decide (x = y)) := ev_op2 ha hb fun v u H Q r1 r2 q => .inl ⟨Dat.d x, Dat.d y, Dat.dp r1, Dat.dp r2, Dat.shaped x hd, Dat.shaped y hd, q _ H (Evl.Ex.refl H) (by rw [Dat.eqv]; exact rfl)⟩
theorem dec_str {x y : Str} : decide (V.str x = V.str y) = decide (x = y) := by
  rw [Bool.eq_iff_iff]
  simp
theorem ev_eqS {x y : Str} (ha : Ev K ta Γ x) (hb : Ev K tb Γ y) : Ev K (tOp (rEqU K) ta tb) Γ (decide (x = y)) := ev_op2 ha hb fun v u H Q r1 r2 q => .inr (by
  have e1 : v = .str x := r1
  have e2 : u = .str y := r2
  subst e1 e2
  exact ⟨rfl, q _ H (Evl.Ex.refl H) (by rw [dec_str]; exact rfl)⟩)
theorem ev_neS {x y : Str} (ha : Ev K ta Γ x) (hb : Ev K tb Γ y) : Ev K (tOp (rNeU K) ta tb) Γ (!decide (x = y)) := ev_op2 ha hb fun v u H Q r1 r2 q => .inr (by
  have e1 : v = .str x := r1
  have e2 : u = .str y := r2
  subst e1 e2
  exact ⟨rfl, q _ H (Evl.Ex.refl H) (by rw [dec_str]; exact rfl)⟩)
theorem ev_str {x : Str} : Ev K (tC (.str x)) Γ x := fun B F σ H _ Q q => q _ H (Evl.Ex.refl H) rfl
theorem ev_neg (h : Ev K te Γ i) : Ev K (tUn (rU fun i => V.int (-i)) te) Γ (-i) := fun B F σ H k Q q => h B F σ H k _ fun v H' e r => ⟨i, r, q _ H' e rfl⟩
/-! list(range(n)) -/
def tLstRange (te : TE) : TE := tLstRg fun σ H R => te σ H fun x H1 => ∃ j, x = .int j ∧ R 0 j H1
end
theorem units65 {k : Nat} {A : Around} (r : Room k A) : A.units + 65 < cLine := by
  have := r.un
  omega
/-! ### a def whose frames know that nothing is being shown -/
structure FnG (P : Program) (w : World) (K : Fg) (mg : Str → Option Value) (base : Heap) (k : Nat) (f : Addr) (fd : FuncData) (ps : List Str) (sp : Sp) : Prop where
  len : ∀ vs H Q E, sp vs H
          Q E → vs.length = ps.length
  run : ∀ (A : Around) (outer : List Env) (s : Shared) (H : Hp) (args : Args) (us : List Value) (vs : List V) (Q : VK) (E : XK), A.guards = some [] → Room k A → Env0 P w K mg base A outer s H → BindsTo s fd args (ps.zip us) → Vals vs us → sp vs H Q E → codeAny (model P w) A (.call (.ref f) args) (CR CX0 outer P w H s Q E) s
section
variable {P : Program} {w : World} {K : Fg} {mg : Str → Option Value} {base : Heap} {f : Addr} {fd : FuncData} {name qual : Str} {st : Stmt} {N ps : List Str} {k : Nat} {sp : Sp}
theorem fng_of (F : FnP K name qual st f fd) (S : FnScope N ps (defScope st)) (len : ∀ vs H Q E, sp vs H Q E → vs.length = ps.length)
    (hbody : ∀ (cdv : Value) (A : Around) (outer : List Env) (s : Shared) (H : Hp) (vs : List V) (Q : VK) (E : XK), A.guards = some [] → Room k (A.deeper (envOfC qual (defScope st) s.heap.objs.size f cdv)) → sp vs H Q E →
      ∃ t, PSs (cxOf CX0 P w K mg base N qual (defScope st) f cdv A outer s H E) (defBody st) t ∧ t { nx := fun _ H' => Q .non H', rt := Q } (L2.start N vs) H) : FnG P w K mg base (k + 1) f fd ps sp := by
  obtain ⟨oc, od, dV, kV, doc, pm, an, cdv,
          ct, osl, rfl, lk, hcd, _, _⟩ := F.ex
  refine ⟨len, fun A outer s H args us vs Q E hG hr e0 hb r hsp => ?_⟩
  have hl := len _ _ _ _ hsp
  have KX : K.In s.heap := e0.mod.kin.keeps (fun b o e => (e0.bs b o e).1)
  have lim : s.heap.NoLimit := e0.mod.nolimit.keeps (fun b o e => (e0.bs b o e).1)
  refine codeAny_call_function hr.depth (KX _ _ lk) rfl S.co
          S.gen rfl (PySem.W.codeRec_of KX hcd) (hb _ _ _ _ ?_)
  refine wpAny_newFunctionEnv_cells S.kind (fun ⟨n, v⟩ hy => ?_) fun env he s1 x => ?_
  · rcases S.par n (List.of_mem_zip hy).1 with q | q
    · exact .inl q
    · exact .inr ⟨q,
            PySem.W.cellsFrom_some _ _ _ (.inl q)⟩
  · subst he
    refine ⟨lim.keeps
            x.toInCall.keep, codeAny_func ?_⟩
    obtain ⟨t, ht, hq⟩ := hbody cdv A outer s H vs Q E hG (hr.deeper _) hsp
    have I : Inv (cxOf CX0 P w K mg base N qual (defScope st) f cdv A outer s H E) [] (L2.start N vs) H s1 := inv_start S hr.hd e0 hl r x
    refine wpAny_mono (ht.run [] s1 (L2.start N vs) H _ I hq) (fun fl s' hs => ?_) (fun e s' hs => hs)
    cases fl with
    | ret u =>
      obtain ⟨v, σ', H',
              J, rv, q⟩ := hs
      exact (⟨v, H', J.os, J.bare, J.base, J.hok, rv, q⟩ : CE outer P w H s Q u s')
    | next =>
      obtain ⟨σ', H', J, q⟩ := hs
      exact (⟨V.non, H', J.os, J.bare, J.base, J.hok, rfl, q⟩ : CE outer P w H s Q Value.none s')
    | brk =>
      obtain ⟨_, _, _, q⟩ := hs
      exact q.elim
    | cont =>
      obtain ⟨_, _, _, q⟩ := hs
      exact q.elim
structure CalG (P : Program) (w : World) (K : Fg) (mg : Str → Option Value) (base : Heap) (k : Nat) (x : Str) (ps : List Str) (sp : Sp) : Prop where
  ex : ∃ f fd, FnG P w K mg base k f fd ps sp ∧ mg x = some (.ref f) ∧ PySem.W.keepIn K (.ref f) = true ∧ Binds K fd ps []
theorem run_g {X : Cx} {k : Nat} {f : Addr} {fd : FuncData} {ps : List Str} {sp : Sp} {pins : List (Addr × Obj)} {σ : L2.St} {H : Hp} {s : Shared} {Q : VK} {us : List Value} {vs : List V} (F : FnG X.prog X.w X.K X.mg X.base k f fd ps sp) (hG : X.A.guards = some []) (hr : Room k X.A) (hb : Binds X.K fd ps [])
    (I : Inv X pins σ H s) (r : Vals vs us) (h : sp vs H Q E0) : wpAny (model X.prog X.w) X.A (call (.ref f) us) (EP X pins σ Q) X.xe s := by
  have hl : (us ++ []).length = ps.length := by rw [List.append_nil, ← r.length]; exact F.len _ _ _ _ h
  have b := hb s us I.kIn hl
  rw [List.append_nil] at b
  refine wpAny_call (codeAny_mono (F.run X.A X.stack s H ⟨us, []⟩ us vs Q E0 hG hr I.env0 b r h) fun r s' hq => ?_)
  cases r with
  | error e => exact hq.elim
  | ok fl =>
    cases fl with
    | ret u => exact I.after hq
    | _ => exact False.elim hq
theorem pcG {X : Cx} {k : Nat} {x : Str} {ps : List Str} {sp : Sp} {e : Expr} {es : List Expr} {t : TA} {p pos : Pos} (c : CalG X.prog X.w X.K X.mg X.base k x ps sp) (hG : X.A.guards = some []) (hr : Room k X.A) (hg : Gl X x) (ha : PA X (e :: es) t) (hdb : (x == ("__debug__" : Str)) = false := by decide)
    (he : starEach (e :: es) X.env = (false, eval e X.env) :: starEach es X.env := by rfl) (hpl : (backTo pos (starEach es X.env)).any (·.1) = false := by rfl) : PE X (.Call (.Name x p) (e :: es) [] pos) (tCall sp [] E0 t) := by
  obtain ⟨f, fd, F, m, kp, b⟩ := c.ex
  refine ⟨fun pins
          s σ H Q I h => ?_⟩
  refine wpAny_Call_Name_kw (ld_glob I hg m ?_ hdb)
  refine PySem.W.callWith_K (h₀ := X.base) I.ok.mod.kin kp (thn (ha.run pos pins s σ H _ I h) fun us s1 ⟨vs, H1, I1, r, q⟩ => ⟨I1.kIn, ?_⟩) he hpl
  have q : sp (vs ++ []) H1 Q E0 := q
  rw [List.append_nil] at q
  exact run_g F hG hr b I1 r q
end
end Dy
/-! ## Dl10 -/
namespace Dy
open PySem L2 PyProof.Rows
def tLstRange2 (te : TE) : TE := tLstRg (tRg1 te)
/-- the item at a place -/
def at' {α : Type} [Inhabited α] (xs : List α) (i : Int) : α := xs.getD i.toNat default
def lastD {α : Type} [Inhabited α] (xs : List α) : α := xs.getD (xs.length - 1) default
section
variable {α β γ : Type} {K : Fg} {ta tb tc te : TE} {tt tu : TT} {Γ Γ' : Ctx} {a b : Bool} {i j : Int}
theorem ev_lstRange (h : Ev K te Γ i) (hi : 0 ≤ i ∧ i ≤ 1000) : EvN K (tLstRange2 te) Γ (Lst.mk (rng 0 i.toNat)) := fun B F σ H k Q q => h B F σ H k _ fun v H1 e r => by
  refine ⟨i, r, RgOk.of_le (Int.le_refl _) (by omega) (by omega) hi.1, fun p hp => q _ _ (e.trans (Evl.Ex.new hp)) ⟨p, _, rfl, upd_same, ?_, ?_⟩ ⟨p, rfl, Evl.fresh_back e hp⟩⟩
  · show (rng 0 i.toNat).length ≤ LIM
    rw [rng_len]
    unfold LIM
    omega
  · have e2 : rgV 0 i = (rng 0 i.toNat).map V.int := by
      unfold rgV rng
      rw [List.map_map, Int.sub_zero]
      rfl
    rw [e2]
    exact int_paired _
theorem ixN_nat {n : Nat} {i : Int} (h : 0 ≤ i ∧ i < n) : ixN n i = some i.toNat := by
  unfold ixN
  rw [if_pos h.1, if_pos h.2]
theorem ixN_last {n : Nat} (h : 0 < n) : ixN n (-1) = some (n - 1) := by
  unfold ixN
  rw [if_neg (by omega)]
  rw [if_pos (by omega)]
  congr 1
  omega
theorem ev_at [Frz α] [Inhabited α] {xs : List α} (ha : Ev K ta Γ (Sq.mk xs)) (hb : Ev K tb Γ i) (h : 0 ≤ i ∧ i < (xs.length : Int)) : Ev K (tOp (rIxU K) ta tb) Γ (at' xs i) := ev_ix ha hb (by
  rw [ixN_nat h]
  show xs[i.toNat]? = some (xs.getD i.toNat default)
  have hl : i.toNat < xs.length := by omega
  rw [List.getD_eq_getElem?_getD, List.getElem?_eq_getElem hl]
  rfl)
theorem ev_last [Frz α] [Inhabited α] {xs : List α} (ha : Ev K ta Γ (Sq.mk xs)) (h : 0 < xs.length) : Ev K (tOp (rIxU K) ta (tUn (rU fun i => V.int (-i)) (tC (.int 1)))) Γ (lastD xs) := ev_ix ha (ev_neg ev_int) (by
  rw [ixN_last h]
  show xs[xs.length - 1]? = some (xs.getD (xs.length - 1) default)
  have hl : xs.length - 1 < xs.length := by omega
  rw [List.getD_eq_getElem?_getD, List.getElem?_eq_getElem hl]
  rfl)
/-- a pair as what is searched -/
theorem Ev.sqP [Frz α] {x : α × α} (h : Ev K te Γ x) : Ev K te Γ (Sq.mk [x.1, x.2]) := fun B F σ H k Q q => h B F σ H k Q fun v H' e r => q v H' e (sq_t (pair_list (x := x.1) (y := x.2) r))
/-! tuples by <= -/
theorem lexAt_cons (x y : Int) (xs ys : List Int) (z : Bool) : ∀ (k i : Nat), Ob.lexAt (fun j => decide ((x :: xs).getD j 0 = (y :: ys).getD j 0)) (fun j => decide ((x :: xs).getD j 0 ≤ (y :: ys).getD j 0)) z (i + 1) k = Ob.lexAt (fun j => decide (xs.getD j 0 = ys.getD j 0)) (fun j => decide (xs.getD j 0 ≤ ys.getD j 0)) z i k
  | 0, i => rfl
  | k + 1, i => by
    rw [Ob.lexAt_succ, Ob.lexAt_succ, lexAt_cons x y xs ys z k (i + 1)]
    rfl
theorem lexAt_le : ∀ ns ms : List Int, Ob.lexAt (fun j => decide (ns.getD j 0 = ms.getD j 0)) (fun j => decide (ns.getD j 0 ≤ ms.getD j 0)) (decide (ns.length ≤ ms.length)) 0 (min ns.length ms.length) = decide (ns ≤ ms)
  | [], ms => by
    have h : ([] : List Int) ≤ ms := List.nil_le ms
    rw [decide_eq_true h]
    simp [Ob.lexAt]
  | x :: xs, [] => by
    have h : ¬ (x :: xs) ≤ ([] : List Int) := by simp
    rw [decide_eq_false h]
    simp [Ob.lexAt]
  | x :: xs, y :: ys => by
    have e : min (x :: xs).length (y :: ys).length = min xs.length ys.length + 1 := by simp [Nat.add_min_add_right]
    have e2 : decide ((x :: xs).length ≤ (y :: ys).length) = decide (xs.length ≤ ys.length) := by simp
    rw [e, e2, Ob.lexAt_succ, lexAt_cons x y xs ys, lexAt_le xs ys]
    show (if decide (x = y) = true then decide (xs ≤ ys) else decide (x ≤ y)) = decide (x :: xs ≤ y :: ys)
    by_cases hxy : x = y
    · subst hxy
      rw [if_pos (by simp)]
      have : (x :: xs ≤ x :: ys) ↔ xs ≤ ys := by rw [List.cons_le_cons_iff]; simp
      rw [decide_eq_decide.mpr this]
    · rw [if_neg (by simpa using hxy)]
      have : (x :: xs ≤ y :: ys) ↔ x ≤ y := by rw [List.cons_le_cons_iff]; simp [hxy]; omega
      rw [decide_eq_decide.mpr this]
theorem ev_leT {xs ys : List Int} (ha : Ev K ta Γ xs) (hb : Ev K tb Γ ys) : Ev K (tOp (rLeU K) ta tb) Γ (decide (xs ≤ ys)) := ev_op2 ha hb fun v u H Q r1 r2 q => by
  obtain ⟨a1, vs, rfl, h2, h3, h4⟩ := r1
  obtain ⟨b1, us, rfl, h6, h7, h8⟩ := r2
  rw [paired_int h4] at h2
  rw [paired_int h8] at h6
  refine .inr ⟨a1, b1, xs, ys, rfl, rfl, h2, h6, q _ H (Evl.Ex.refl H) ?_⟩
  show V.bl _ = V.bl _
  rw [lexAt_le]
theorem ev_leP {x y : Int × Int} (ha : Ev K ta Γ x) (hb : Ev K tb Γ y) : Ev K (tOp (rLeU K) ta tb) Γ (decide (pl x ≤ pl y)) := by
  have ha' : Ev K ta Γ (pl x) := fun B F σ H k Q q => ha B F σ H k Q fun v H' e r => q v H' e (pair_list (x := x.1) (y := x.2) r)
  have hb' : Ev K tb Γ (pl y) := fun B F σ H k Q q => hb B F σ H k Q fun v H' e r => q v H' e (pair_list (x := y.1) (y := y.2) r)
  exact ev_leT ha' hb'
instance : Par Str where
  ent x := .bs x
  ok r := ⟨_, rfl, r⟩
  noow _ _ _ z := nomatch z
end
end Dy
set_option
        maxHeartbeats 4000000
/-! ## Dl11 -/
namespace Dy
open PySem L2 PyProof.Rows PySem.Spec
/-! ### set(xs): a list or a tuple of lots, few of them distinct -/
theorem few_of {L : List (Addr × List Int)} {D : List (List Int)} (nd : (L.map (·.2)).Nodup) (sub : ∀ p ∈ L, p.2 ∈ D) : L.length ≤ D.length := by
  have z := List.Nodup.length_le_of_subset nd fun x hx => by
    obtain ⟨q, hq, e⟩ := List.mem_map.mp hx
    exact e ▸ sub q hq
  rwa [List.length_map] at z
abbrev noSet (w : World) : Obj := { cls := .type "set", dict := none, data := .set #[] 0 (.fresh 0 0 (!w.params.followText "set-order")) }
section
variable {P : Program} {w : World} {A : Around}
        {E : Value → Shared → Prop} {s : Shared}
structure LpOk (P : Program) (w : World) (h0 h : Heap) (S : Addr) (ks : List (Addr × List Int)) (i : Nat) : Prop where
  kept : ∀ b o, h0.get? b = some o → h.get? b = some o
  set : ∃ L es ep t, SetTR P w h S L es ep t ∧ Got ks i L
theorem lp_go {I S : Addr} {fp wr : List Addr} {G : Array GenState → Array GenState → Prop} {n : Nat} {Pv : Nat → Value → Prop} {St : Nat → Shared → Prop} {R : Result → Shared → Prop} {ks : List (Addr × List Int)} {D : List (List Int)} {h0 : Heap}
    (W : WalksS P w A.in1 I fp wr G n Pv St) (nf : S ∉ fp) (kn : ks.length = n) (kd : ∀ p ∈ ks, p.2 ∈ D) (few : D.length ≤ 62) (pv : ∀ i v, Pv i v → ∃ p, ks[i]? = some p ∧ v = .ref p.1) (kt : ∀ p ∈ ks, IsT P w h0 p.2 p.1) (n0 : h0.get? S = none) (w0 : ∀ b ∈ wr, h0.get? b = none) (hu : A.in1.units < cLine) (m : Nat) :
    ∀ (i : Nat) (s : Shared), i + m = n → St i s → LpOk P w h0 s.heap S ks i → (∀ s', Moved (S :: wr) G s s' → LpOk P w h0 s'.heap S ks n → R (.ok (.ret .none)) s') → codeAny (model P w) A (.builtin "set.update.loop" ⟨[.ref S, .ref I], []⟩) R s := by
  have nw : S ∉ wr := nf ∘ W.sub S
  have wid : ∀ b ∈ wr, b ∈ S :: wr := fun _ => List.mem_cons_of_mem S
  have stay : ∀ {u v : Shared}, Moved wr G u v → ∀ {j : Nat}, LpOk P w h0 u.heap S ks j → LpOk P w h0 v.heap S ks j := fun {u v} mv {j} ok => by
    have kp : ∀ b o, h0.get? b = some o → v.heap.get? b = some o := fun b o e => mv.heap b o (fun z => nomatch (w0 b z).symm.trans e) (ok.kept b o e)
    obtain ⟨L, es, ep, t, R1, g⟩ := ok.set
    exact ⟨kp, L, es, ep, t, R1.keep (fun o => mv.heap S o nw) fun p hp => isT_keep (kt p (List.mem_of_mem_take (g.sub p hp))) kp, g⟩
  induction m with
  | zero =>
    intro i s e st ok fin
    obtain rfl : i = n := e
    refine codeAny_builtin F.entry_set_update_loop (by rw [Around.under_plainId F.plain_set_update_loop]; exact wpAny_bind (m := pyNext (.ref I)) (W.done s _ _ st fun s' mv => wpAny_pure (fin s' (mv.mono wid) (stay mv ok))))
  | succ m ih =>
    intro i s e st ok fin
    apply codeAny_builtin F.entry_set_update_loop
    rw [Around.under_plainId F.plain_set_update_loop]
    apply wpAny_bind (m := pyNext (.ref I))
    refine W.item i s _ _ (by omega) st fun v s' hv st' mv => ?_
    obtain ⟨p, hp, rfl⟩ := pv i v hv
    have ok' := stay mv ok
    obtain ⟨L, es, ep, t, R1, g⟩ := ok'.set
    have hx : IsT P w s'.heap p.2 p.1 := isT_keep (kt p (List.mem_of_getElem? hp)) ok'.kept
    have hl : L.length ≤ D.length := few_of R1.nd fun q hq => kd q (List.mem_of_mem_take (g.sub q hq))
    refine wpAny_bind (m := holding [Value.ref p.1] (setAdd S (.ref p.1))) (wpAny_holding (wpAny_holding (m := do setAddHashed S (.ref p.1) (← pyHash (.ref p.1))) (wpAny_bind (wpAny_pyHash_tuple hu hx ?_))))
    refine add_at (s := { s' with toks := s'.toks + (p.2.length + 1) }) R1 hx hu (by omega) fun b h' L' es' ep' t' sb R2 c1 c2 => wpAny_pure ⟨plainId_quiet F.plain_set_update_loop _, ?_⟩
    have g2 : Got ks (i + 1) L' := (Classical.em (p.2 ∈ L.map (·.2))).elim (fun c => c1 c ▸ g.same hp c) fun c => g.more hp (c2 c)
    have kp2 : ∀ b o, h0.get? b = some o → h'.get? b = some o := fun b o z => (sb.2 b fun y => nomatch (y ▸ n0).symm.trans z).trans (ok'.kept b o z)
    refine ih (i + 1) _ (by omega) (W.frame _ s' _ _ st' (Nat.le_add_right _ _) fun b hb o z => (sb.2 b fun y => nf (y ▸ hb)).trans z) ⟨kp2, L', es', ep', t', R2, g2⟩ fun s2 mv2 ok2 => fin s2 ?_ ok2
    exact Moved.trans W.gtrans ((mv.mono wid).then_heap (Nat.le_add_right _ _) fun b o hb z => (sb.2 b fun y => hb (y ▸ List.mem_cons_self)).trans z) mv2
/-- set(x) of a list or a tuple: the class's name and what walks it are told -/
theorem set_from {cl it : String} {ob : Obj} {l : Addr} {D : List (List Int)} {ks : List (Addr × List Int)} {St : Addr → Nat → Heap → Prop} {Pv : Nat → Value → Prop} {Q : Value → Shared → Prop} (hh : A.handled = none) (ho : s.heap.get? l = some ob) (hcl : ob.cls = .type cl) (kd : ∀ p ∈ ks, p.2 ∈ D) (few : D.length ≤ 62) (kt : ∀ p ∈ ks, IsT P w s.heap p.2 p.1) (hu : A.units + 3 < cLine)
    (g1 : isSubtype (.type cl) (.type "set") = pure false) (g2 : isSubtype (.type cl) (.type "frozenset") = pure false) (g3 : (Value.type cl == Value.type "dict") = false)
    (walk : ∀ (A' : Around) (E' : Value → Shared → Prop) (s' : Shared) (Q' : Value → Shared → Prop), s'.heap.get? l = some ob → Q' (.ref s'.heap.objs.size) { s' with heap := s'.heap.push { cls := .type it, data := .fields #[.ref l, .int 0 0] } } → wpAny (model P w) A' (pyIter (.ref l)) Q' E' s')
    (W : ∀ (A' : Around) (I : Addr), A'.handled = none → l ≠ I → Walks P w A' I [I, l] [I] ks.length Pv (St I)) (st0 : ∀ (h : Heap) (I : Addr), h.get? I = some { cls := .type it, data := .fields #[.ref l, .int 0 0] } → h.get? l = some ob → St I 0 h) (pv : ∀ i v, Pv i v → ∃ p, ks[i]? = some p ∧ v = .ref p.1)
    (fin : ∀ (h' : Heap) (tk : Nat) L es ep t, SetTR P w h' s.heap.objs.size L es ep t → Got ks ks.length L → (∀ b o, s.heap.get? b = some o → h'.get? b = some o) → Q (.ref s.heap.objs.size) { s with heap := h', toks := tk }) :
    wpAny (model P w) A (call (.type
            "set") [.ref l]) Q E s := by
  have ⟨c, tl, c1⟩ := F.called_set.mro
  have c2 := F.called_set.made
  have c3 := F.called_set.sub
  have c4 := F.called_set.notType
  have c5 := F.called_set.canCreate
  have c6 := F.typeCall_set_1 (.ref l)
  have S0 : (s.heap.push (noSet w)).get? s.heap.objs.size = some (noSet w) := Heap.get?_push_size _ rfl
  have ST : Shared.TypeIs { s with heap := s.heap.push (noSet w) } (.ref s.heap.objs.size) "set" := ⟨_, S0, rfl⟩
  refine wpAny_call (codeAny_of_tree (show wpAny _ _ (callAny (.type "set") _) _ _ _ from wpAny_pure ⟨Code.quiet_builtin _ (by decide +kernel), codeAny_builtin F.entry_type_call ?_⟩))
  rw [Around.under_plain (weight_type_call_type
          "set" [.ref l] []) rfl]
  repeat (any_goals first | assumption | wp_step)
  apply codeAny_mono (code_set_led1 (.ref l) (E := E) (Q₁ := fun x u => x = .ref s.heap.objs.size ∧ u = { s with heap := s.heap.push (noSet w) }) ⟨rfl, rfl⟩)
  rintro (e | fl) u hr
  · exact hr
  cases fl with
  | ret x =>
    obtain ⟨rfl, rfl⟩ := hr
    have c7 := F.called_set.init.lookup
    have c8 := F.called_set.init.bind (.ref s.heap.objs.size)
    repeat (any_goals first | assumption | wp_step)
    let Good : Value → Shared → Prop := fun r u => r = .none ∧ ∃ h' tk L es ep t, u = { s with heap := h', toks := tk } ∧ SetTR P w h' s.heap.objs.size L es ep t ∧ Got ks ks.length L ∧ ∀ b o, s.heap.get? b = some o → h'.get? b = some o
    apply codeAny_mono (codeAny_call_builtin (R := wants Good E) F.called_set.init.plain F.entry_set_init (check_set_init_1 ST ?_))
    · rintro (e | fl) u hr
      · exact hr
      cases fl with
      | ret r =>
        obtain ⟨rfl, h', tk, L, es, ep, t, rfl, R1, g, kp⟩ := hr
        repeat (any_goals first | assumption | wp_step)
        exact fin _ _ _ _ _ _ R1 g kp
      | _ => exact hr.elim
    · obtain ⟨bcl, bdict, bdata, bsl⟩ := ob
      obtain rfl : bcl = .type cl := hcl
      have lS : l < s.heap.objs.size := Heap.lt_size ho
      have o1 : (s.heap.push (noSet w)).get? l = some { cls := .type cl, dict := bdict, data := bdata, slots := bsl } := Heap.get?_push_of_some _ ho
      unfold Builtin.«set.__init__»
              noKeywords Builtin.Frozenset.updateFrom
      generalize hPI : pyIter = PI
      wp_walk
      subst hPI
      refine walk _ _ _ _ o1 (wpAny_bind (wpAny_runValue ?_))
      have sz : (s.heap.push (noSet w)).objs.size = s.heap.objs.size + 1 := Heap.size_push ..
      have void : ∀ b, s.heap.objs.size ≤ b → s.heap.get? b = none := fun b hb => by
        cases q : s.heap.get? b with
        | none => rfl
        | some o => exact absurd (Nat.lt_of_lt_of_le
                (Heap.lt_size q) hb) (Nat.lt_irrefl _)
      have lI : l ≠ (s.heap.push (noSet w)).objs.size := by
        rw [sz]
        exact Nat.ne_of_lt (Nat.lt_succ_of_lt lS)
      have nf : s.heap.objs.size ∉ [(s.heap.push (noSet w)).objs.size, l] := by
        rw [sz]
        simp only [List.mem_cons, List.not_mem_nil, or_false, not_or]
        exact ⟨Nat.ne_of_lt (Nat.lt_succ_self _), fun z => Nat.ne_of_lt lS z.symm⟩
      refine lp_go (W _ _ (by simp [hh]) lI).toS nf rfl kd few pv kt (void _ (Nat.le_refl _)) (fun b hb => void b ?_) hu ks.length 0 _ (by omega) (st0 _ _ (Heap.get?_push_size _ rfl) (Heap.get?_push_of_some _ o1)) ⟨fun b o e => Heap.get?_push_of_some _ (Heap.get?_push_of_some _ e), [], #[], 0, _, setTR_fresh (Heap.get?_push_of_some _ S0), Got.zero ks⟩ fun s' mv ok => ?_
      · rw [List.mem_singleton.mp hb, sz]
        exact Nat.le_succ _
      obtain ⟨kp, L, es, ep, t, R1, g⟩ := ok
      obtain ⟨h', g2,
              d', tk', os'⟩ := s'
      obtain rfl : g2 = s.gens := mv.gens
      obtain rfl : d' = s.drawn := mv.drawn
      obtain rfl : os' = s.os := mv.os
      exact wpAny_pure (wpAny_pure (a := Fin.done (Flow.ret Value.none)) ⟨rfl, h', tk', L, es, ep, t, rfl, R1, g, kp⟩)
  | _ => exact hr.elim
end
/-- set(x), x a list or a tuple of lots, of which few are distinct -/
def rSetD (K : Fg) (P : Program) (w : World) : List V → Hp → VK → Prop := fun xs H Q => ∃ (l : Addr) (ks : List (Addr × List Int)) (D : List (List Int)), xs = [V.ref l] ∧ (SqL K H l (ks.map fun p => V.ref p.1) ∨ SqT K H l (ks.map fun p => V.ref p.1)) ∧ (∀ p ∈ ks, SqT K H p.1 (p.2.map V.int)) ∧ (∀ p ∈ ks, p.2 ∈ D) ∧ D.length ≤ 62 ∧
  ∀ a L, H a = none → (∀ p ∈ L, p ∈ ks) → (∀ p ∈ ks, p.2
          ∈ L.map (·.2)) → Q (.ref a) (upd H a (SetTO P w a L))
theorem at_ks {items : Array Value} {ks : List (Addr × List Int)} (h : items.toList = ks.map fun p => Value.ref p.1) (i : Nat) (v : Value) (e : items[i]? = some v) : ∃ p, ks[i]? = some p ∧ v = .ref p.1 := by
  rw [← Array.getElem?_toList, h, List.getElem?_map] at e
  obtain ⟨p, hp, e2⟩ := Option.map_eq_some_iff.mp e
  exact ⟨p, hp, e2.symm⟩
theorem cr_setD {X : Cx} (hc : X.calm = true) (hu : X.A.units + 64 < cLine) : CallR X (.type "set") (rSetD X.K X.prog X.w) := by
  intro pins s σ H xs us Q I r ⟨l, ks, D, e, hl, hk, kd, few, q⟩
  subst e
  rw [Vals.ref1 r]
  have hn : H s.heap.objs.size = none
          := I.hok.fresh (Nat.le_refl _)
  have goal : ∀ (h' : Heap) (tk : Nat) L es ep t, SetTR X.prog X.w h' s.heap.objs.size L es ep t → Got ks ks.length L → (∀ b o, s.heap.get? b = some o → h'.get? b = some o) → EP X pins σ Q (.ref s.heap.objs.size) { s with heap := h', toks := tk } := fun h' tk L es ep t R g k =>
    ⟨.ref s.heap.objs.size, upd H s.heap.objs.size (SetTO X.prog X.w s.heap.objs.size L), I.laid (t' := tk) k (Nat.le_refl _) (setTO_new R.t0), rfl, q _ L hn (fun p hp => List.mem_of_mem_take (g.sub p hp)) fun p hp => g.all p (by rw [List.take_length]; exact hp)⟩
  rcases hl with hl | hl
  · obtain ⟨its, rv, pl, hz⟩ := I.list hl
    have e : its = ks.map fun p => Value.ref p.1 := refs_of_vals rv
    obtain ⟨ob, ho, hcl, n, hd⟩ := pl.isList
    have L0 : ∀ {h : Heap}, h.get? l = some ob → h.IsList l its.toArray := fun z => ⟨ob, z, hcl, n, hd⟩
    have en : its.toArray.size = ks.length := by rw [List.size_toArray, e, List.length_map]
    refine set_from (cl := "list") (it := "list_iterator") (I.ok.hd hc) ho hcl kd few (fun p hp => I.isT (hk p hp)) (by omega) F.sub_list_set F.sub_list_frozenset (by decide) (fun A' E' s' Q' z qq => wpAny_pyIter_list (L0 z) qq) (fun A' I2 z1 z2 => en ▸ Walks.list z1 I2 l z2 its.toArray) (fun h I2 z1 z2 => ⟨⟨_, z1, rfl, rfl⟩, L0 z2⟩) (at_ks (by simpa using e)) goal
  · obtain ⟨its, rv, pl, hz⟩ := I.tuple hl
    have e : its = ks.map fun p => Value.ref p.1 := refs_of_vals rv
    obtain ⟨ob, ho, hcl, n, hd⟩ := (show s.heap.IsTuple l its.toArray from pl)
    have L0 : ∀ {h : Heap}, h.get? l = some ob → h.IsTuple l its.toArray := fun z => ⟨ob, z, hcl, n, hd⟩
    have en : its.toArray.size = ks.length := by rw [List.size_toArray, e, List.length_map]
    refine set_from (cl := "tuple") (it := "tuple_iterator") (I.ok.hd hc) ho hcl kd few (fun p hp => I.isT (hk p hp)) (by omega) F.sub_tuple_set F.sub_tuple_frozenset (by decide) (fun A' E' s' Q' z qq => wpAny_pyIter_tuple (L0 z) qq) (fun A' I2 z1 z2 => en ▸ Walks.tuple z1 I2 l z2 its.toArray) (fun h I2 z1 z2 => ⟨⟨_, z1, rfl, rfl⟩, L0 z2⟩) (at_ks (by simpa using e)) goal
end Dy
set_option
        maxHeartbeats 2000000
/-! ## Dl12 -/
namespace Dy
open PySem L2 PyProof.Rows
/-- few distinct ones -/
def Few (xs : List (List Int)) : Prop := ∃ D : List (List Int), D.length ≤ 62 ∧ ∀ x ∈ xs, x ∈ D
theorem Few.len {xs : List (List Int)} (h : xs.length ≤ 62) : Few xs := ⟨xs, h, fun _ => id⟩
/-! distinct ints, sorted -/
def ddI : List Int → List Int
  | [] => []
  | x :: xs => if x ∈ ddI xs then ddI xs else x :: ddI xs
theorem mem_ddI {x : Int} : ∀ {xs : List Int}, x ∈ ddI xs ↔ x ∈ xs
  | [] => Iff.rfl
  | y :: ys => by
    have ih := @mem_ddI x ys
    have ih2 := @mem_ddI y ys
    unfold ddI
    by_cases h : y ∈ ddI ys
    · rw [if_pos h, ih]
      simp only [List.mem_cons]
      exact ⟨.inr, fun z => z.elim (fun e => by rw [e]; exact ih2.mp h) id⟩
    · rw [if_neg h]
      simp only [List.mem_cons, ih]
theorem ddI_nodup : ∀ xs : List Int, (ddI xs).Nodup
  | [] => List.nodup_nil
  | y :: ys => by
    have ih := ddI_nodup ys
    unfold ddI
    by_cases h : y ∈ ddI ys
    · rwa [if_pos h]
    · rw [if_neg h]
      exact List.nodup_cons.mpr ⟨h, ih⟩
theorem ddI_len : ∀ xs : List Int, (ddI xs).length ≤ xs.length
  | [] => Nat.le_refl _
  | y :: ys => by
    have ih := ddI_len ys
    unfold ddI
    by_cases h : y ∈ ddI ys
    · rw [if_pos h]
      exact Nat.le_succ_of_le ih
    · rw [if_neg h]
      exact Nat.succ_le_succ ih
def ssortI (xs : List Int) : List Int := sortI (ddI xs)
theorem lt_nodup {ns : List Int} (h : ns.Pairwise (· < ·)) : ns.Nodup := h.imp fun {a b} z e => by
  have z2 : a < b := z
  omega
theorem ssortI_unique {xs ns : List Int} (h1 : ns.Pairwise (· < ·)) (h2 : ∀ x, x ∈ ns ↔ x ∈ xs) : ns = ssortI xs :=
  sortI_unique ((List.perm_ext_iff_of_nodup (lt_nodup h1) (ddI_nodup xs)).mpr fun x => (h2 x).trans mem_ddI.symm) (h1.imp fun {a b} z => Int.le_of_lt z)
/-! the calls -/
/-- set(t), t a tuple of ints -/
def rSetTI (K : Fg) (w : World) : List V → Hp → VK → Prop := fun xs H Q => ∃ (p : Addr) (ns : List Int), xs = [V.ref p] ∧ SqT K H p (ns.map V.int) ∧ ns.length ≤ 1000 ∧ ∀ a c, H a = none → c ≤ ns.length → Q (.ref a) (upd H a (SetO w a (fun j => decide (j ∈ ns)) c))
theorem cr_setTI {X : Cx} (hc : X.calm = true) : CallR X (.type "set") (rSetTI X.K X.w) := by
  intro pins s σ H xs us Q I r ⟨p, ns, e, hq, hl, q⟩
  subst e
  rw [Vals.ref1 r]
  obtain ⟨its, rv, pt, hz⟩ := I.tuple hq
  exact call_set_tupI ns (I.ok.hd hc) (show s.heap.IsTuple p its.toArray from pt) (ints_of_vals rv) (by unfold scanBound; omega) fun h' tk c R1 hcn k =>
    ⟨.ref s.heap.objs.size, upd H s.heap.objs.size (SetO X.w s.heap.objs.size (fun j => decide (j ∈ ns)) c), I.laid (t' := tk) k (Nat.le_refl _) (setO_new R1), rfl, q _ c (I.hok.fresh (Nat.le_refl _)) hcn⟩
def rSetU (K : Fg) (P : Program) (w : World) : List V → Hp → VK → Prop := fun vs H Q => rSetD K P w vs H Q ∨ rSetTI K w vs H Q
theorem cr_setU {X : Cx} (hc : X.calm = true) (hu : X.A.units + 64 < cLine) : CallR X (.type "set") (rSetU X.K X.prog X.w) := fun pins s σ H vs us Q I r h => h.elim (cr_setD hc hu pins s σ H vs us Q I r) (cr_setTI hc pins s σ H vs us Q I r)
def rSortSU (K : Fg) (P : Program) (w : World) : List V → Hp → VK → Prop := fun vs H Q => rSortM K P w vs H Q ∨ rSortedSet w vs H Q
theorem cr_sortSU {X : Cx} (hc : X.calm = true) (hu : X.A.units + 64 < cLine) : CallR X (.builtin "sorted") (rSortSU X.K X.prog X.w) := fun pins s σ H vs us Q I r h => h.elim (cr_sortM hc hu pins s σ H vs us Q I r) (cr_sortedSet hc pins s σ H vs us Q I r)
/-- sorted(set(e)) -/
def tSS (K : Fg) (P : Program) (w : World) (te : TE) : TE := tCB (rSortSU K P w) (tCons (tCB (rSetU K P w) (tCons te tNil)) tNil)
section
variable {K : Fg} {Γ : Ctx} {te : TE} {P : Program} {w : World}
theorem ss_core {xs : List (List Int)} {H : Hp} {a : Addr} {vs : List V} {Q : VK} (h : H a = some (.lst vs) ∨ SqT K H a vs) (hp : Paired (TupI K H) vs xs) (few : Few xs)
    (q : ∀ p ys H', Ex H H' → H p = none → H' p = some (.lst ys) → Paired (TupI K H') ys (ssort xs) → Q (.ref p) H') : rSetU K P w [.ref a] H fun x H1 => rSortSU K P w [x] H1 Q := by
  obtain ⟨ks, e1, e2, hk⟩ := pairs_ks hp
  subst e1 e2
  obtain ⟨D, hD, hin⟩ := few
  refine .inl ⟨a, ks, D, rfl, h.imp SqL.of id, hk, fun p hp => hin _ (List.mem_map_of_mem hp), hD, fun b L hb h1 h2 => .inl ⟨b, L, rfl, upd_same, fun p hp => Evl.ex_t (Evl.Ex.new hb) (hk p (h1 p hp)), fun ys p nd hy hn => ?_⟩⟩
  have e3 : sortT (L.map (·.2)) = ssort (ks.map (·.2)) := ssort_unique nd fun x => ⟨fun hx => by
    obtain ⟨q, hq, e⟩ := List.mem_map.mp hx
    exact e ▸ List.mem_map_of_mem (h1 q hq), fun hx => by
    obtain ⟨q, hq, e⟩ := List.mem_map.mp hx
    exact e ▸ h2 q hq⟩
  rw [e3] at hy
  exact q p ys _ ((Evl.Ex.new hb).trans (Evl.Ex.new hn)) (Evl.fresh_back (Evl.Ex.new hb) hn) upd_same (tupI_ex (Evl.Ex.new hn) hy)
theorem ev_ss {xs : List (List Int)} (h : Ev K te Γ (Sq.mk xs)) (few : Few xs) : EvN K (tSS K P w te) Γ (Lst.mk (ssort xs)) := fun B F σ H k Q q => h B F σ H k _ fun v H1 e r => by
  obtain ⟨a, vs, rfl, h2, h3, h4⟩ := r
  exact ss_core h2 (r_tupI h4) few fun p ys H' e2 hn hp hy => q _ _ (e.trans e2) ⟨p, ys, rfl, hp, Nat.le_trans (ssort_len _) h3, tupI_r hy fun x hx => paired_all h4 x (mem_ssort.mp hx)⟩ ⟨p, rfl, Evl.fresh_back e hn⟩
theorem ev_ssW {xs : List (Int × Int)} (h : Ev K te Γ (Sq.mk xs)) (few : Few (xs.map pl)) : EvN K (tSS K P w te) Γ (Lst.mk (ssortW xs)) := fun B F σ H k Q q => h B F σ H k _ fun v H1 e r => by
  obtain ⟨a, vs, rfl, h2, h3, h4⟩ := r
  refine ss_core h2 (r_tupW h4) few fun p ys H' e2 hn hp hy => ?_
  rw [← ssortW_pl] at hy
  refine q _ _ (e.trans e2) ⟨p, ys, rfl, hp, ?_, tupW_r hy⟩ ⟨p, rfl, Evl.fresh_back e hn⟩
  show (ssortW xs).length ≤ LIM
  unfold ssortW
  rw [List.length_map]
  exact Nat.le_trans (ssort_len _) (by rw [List.length_map]; exact h3)
theorem ev_ssI {xs : List Int} (h : Ev K te Γ xs) (hl : xs.length < 64) : EvN K (tSS K P w te) Γ (Lst.mk (ssortI xs)) := fun B F σ H k Q q => h B F σ H k _ fun v H1 e r => by
  obtain ⟨a, vs, rfl, h2, h3, h4⟩ := r
  rw [paired_int h4] at h2
  refine .inr ⟨a, xs, rfl, h2, by omega, fun b c hb hc => .inr ⟨b, _, c, rfl, upd_same, by omega, fun ns p h5 h6 h7 hn => ?_⟩⟩
  have e1 : ns = ssortI xs := ssortI_unique h5 fun x => (h6 x).trans decide_eq_true_iff
  subst e1
  refine q _ _ (e.trans ((Evl.Ex.new hb).trans (Evl.Ex.new hn))) ⟨p, _, rfl, upd_same, ?_, int_paired _⟩ ⟨p, rfl, Evl.fresh_back e (Evl.fresh_back (Evl.Ex.new hb) hn)⟩
  show (ssortI xs).length ≤ LIM
  have := ddI_len xs
  unfold ssortI
  rw [sortI_len]
  omega
end
end Dy
/-! ## Dl13 -/
namespace Dy
open PySem L2 PyProof.Rows
/-! ### comprehensions of two clauses: contexts that know frozen data alone -/
def Ent.still (e : Ent) : Prop := Ent.casesOn (motive := fun _ => Prop) e True (fun _ => True) (fun _ => False) (fun _ _ => False)
def Still : Ctx → Prop
  | [] => True
  | e :: Γ => e.still ∧ Still Γ
theorem Still.at : ∀ {Γ : Ctx} (_ : Still Γ) (i : Nat) (e : Ent), Γ[i]? = some e → e.still
  | [], _, i, e, h => by simp at h
  | _ :: _, ⟨h, _⟩, 0, e, q => by
    simp at q
    exact q ▸ h
  | _ :: _, ⟨_, t⟩, i + 1, e, q => t.at i e (by simpa using q)
theorem Still.kn {K : Fg} {B F H H' : Hp} {σ : L2.St} {Γ : Ctx} (s : Still Γ) (k : Kn K B F H σ Γ) (e : Keep H H') (e1 : Ex B H') (e2 : Ex F H') : Kn K B F H' σ Γ where
  len := k.len
  exB := e1
  exF := e2
  at_ i en q := by
    have z := k.at_ i en q
    have y := s.at i en q
    cases en with
    | any => trivial
    | fz x =>
      obtain ⟨v, h1, h2⟩ := z
      exact ⟨v, h1, Kp.keep e h2⟩
    | bs x => exact y.elim
    | ow n P => exact y.elim
  dis := k.dis
section
variable {α β γ : Type} {K : Fg} {ta tb te tl td : TE} {tt : TT} {Γ Γ' Δ : Ctx} {i j : Int} {ks : List Int}
/-- what is walked never changes -/
def EvZ (K : Fg) [Enc α] (wi : TI) (Γ : Ctx) (xs : List α) : Prop := ∀ B F σ H, Kn K B F H σ Γ → ∀ R : It → Hp → Prop, (∀ J H', Ex H H' → (∀ G, Keep H' G → ItOk K G J xs) → R J H') → wi σ H R
theorem ez_tup [Frz α] {xs : List α} (h : Ev K tl Γ xs) : EvZ K (iSeq K tl) Γ xs := fun B F σ H k R q => h B F σ H k _ fun v H1 e r => by
  obtain ⟨p, vs, rfl, h2, h3, h4⟩ := r
  exact ⟨p, rfl, .inr ⟨⟨vs, h2⟩, q _ _ e fun G kp => it_tup (keep_t kp h2) (paired_mono (fun _ _ r => Kp.keep kp r) h4)⟩⟩
theorem ez_rng2 (h : Ev K ta Γ i) (h' : Ev K tb Γ j) (hi : -100000 ≤ i ∧ i ≤ 100000) (hj : -100000 ≤ j ∧ j ≤ 100000) : EvZ K (iRng2 (tCons ta (tCons tb tNil))) Γ (rng i (j - i).toNat) := fun B F σ H k R q => h B F σ H k _ fun v H1 e r => h' B F σ H1 (k.mono e) _ fun u H2 e2 r2 =>
  ⟨i, j, by rw [r, r2], by omega, q _ _ (e.trans e2) fun G _ => it_rng⟩
theorem take_snoc {α : Type} {xs : List α} {i : Nat} (h : i < xs.length) : xs.take (i + 1) = xs.take i ++ [xs[i]] := by simp
theorem ev_lc2 [Enc α] [Enc β] [Frz γ] {wi wi1 : TI} {g g1 : TG} {js js1 vs vs1 : List Nat} {xs : List α} {ys : α → List β} {T : α → Ctx} {T1 : α → β → Ctx} {f : α → β → γ} (h : EvI K wi Γ xs) (hg : ∀ x, x ∈ xs → EvG K g js x (wipeC Γ vs) (T x))
    (st : ∀ x, Still (T x)) (h1 : ∀ x, x ∈ xs → EvZ K wi1 (T x) (ys x)) (hg1 : ∀ x y, x ∈ xs → y ∈ ys x → EvG K g1 js1 y (wipeC (T x) vs1) (T1 x y)) (he : ∀ x y, x ∈ xs → y ∈ ys x → Ev K te (T1 x y) (f x y))
    (hl : (xs.flatMap fun x => (ys x).map (f x)).length ≤ LIM) (hj : ∀ k ∈ js, k ∈ vs := by decide) (hj1 : ∀ k ∈ js1, k ∈ vs1 := by decide) : EvN K (tLc2 wi g tYes wi1 g1 tYes te vs vs1) Γ (Lst.mk (xs.flatMap fun x => (ys x).map (f x))) := fun B F σ H k Q q =>
  h B F σ H k _ fun J H1 e1 ok hlen D hD => by
  have pre : ∀ n, (((xs.take n).flatMap fun x => (ys x).map (f x))).length ≤ LIM := fun n => by
    refine Nat.le_trans ?_ hl
    conv => rhs; rw [← List.take_append_drop n xs, List.flatMap_append, List.length_append]
    exact Nat.le_add_right _ _
  refine ⟨fun i m H' => m = xs.length - i ∧ i ≤ xs.length ∧ Ex H1 H' ∧ ∃ us, H' D = some (.lst us) ∧ Paired (Enc.R K H') us ((xs.take i).flatMap fun x => (ys x).map (f x)),
    ⟨xs.length, by simp, Nat.zero_le _, Evl.Ex.new hD, [], upd_same, by simp; exact .nil⟩, ?_⟩
  rintro i m H' ⟨rfl, hi, ex, us, hus, pu⟩
  by_cases hlt : i < xs.length
  · refine .inr ⟨(ok.go i _ H' ex (List.getElem?_eq_getElem hlt)).1, fun H'' => i + 1 ≤ xs.length ∧ Ex H1 H'' ∧ ∃ us, H'' D = some (.lst us) ∧ Paired (Enc.R K H'') us ((xs.take (i + 1)).flatMap fun x => (ys x).map (f x)),
      fun H'' n => ⟨xs.length - (i + 1), by omega, rfl, n⟩, fun v H2 y => ?_⟩
    obtain ⟨rfl, r⟩ := (ok.go i _ H' ex (List.getElem?_eq_getElem hlt)).2 v H2 y
    have hm : xs[i] ∈ xs := List.getElem_mem hlt
    have ft : (xs.take (i + 1)).flatMap (fun x => (ys x).map (f x)) = (xs.take i).flatMap (fun x => (ys x).map (f x)) ++ (ys xs[i]).map (f xs[i]) := by rw [take_snoc hlt, List.flatMap_append, List.flatMap_singleton]
    have pre2 := pre (i + 1)
    rw [ft] at pre2 ⊢
    refine hg _ hm B F _ H2 v ((k.mono (e1.trans ex)).wipe vs) r _ fun σ2 k2 hl2 hs => ⟨wipe_same (js := js) (by rw [hl2, wipe_length]) hs hj, ?_⟩
    refine h1 _ hm B F σ2 H2 k2 _ fun J1 H4 e4 ok1 => ?_
    refine ⟨fun j n H5 => n = (ys xs[i]).length - j ∧ j ≤ (ys xs[i]).length ∧ Ex H1 H5 ∧ Keep H4 H5 ∧ ∃ us, H5 D = some (.lst us) ∧ Paired (Enc.R K H5) us (((xs.take i).flatMap fun x => (ys x).map (f x)) ++ ((ys xs[i]).take j).map (f xs[i])),
      ⟨_, rfl, Nat.zero_le _, ex.trans e4, Keep.refl, us, e4 _ _ hus, by simpa using paired_mono (fun _ _ r => Enc.mono e4 r) pu⟩, ?_⟩
    rintro j n H5 ⟨rfl, hjl, ex5, kp5, ws, hws, pw⟩
    have okj := ok1 H5 kp5
    by_cases hlt1 : j < (ys xs[i]).length
    · refine .inr ⟨(okj.go j _ H5 (Evl.Ex.refl _) (List.getElem?_eq_getElem hlt1)).1, fun H'' => j + 1 ≤ (ys xs[i]).length ∧ Ex H1 H'' ∧ Keep H4 H'' ∧ ∃ us, H'' D = some (.lst us) ∧ Paired (Enc.R K H'') us (((xs.take i).flatMap fun x => (ys x).map (f x)) ++ ((ys xs[i]).take (j + 1)).map (f xs[i])),
        fun H'' z => ⟨_, by omega, rfl, z⟩, fun v1 H6 y1 => ?_⟩
      obtain ⟨rfl, r1⟩ := (okj.go j _ H5 (Evl.Ex.refl _) (List.getElem?_eq_getElem hlt1)).2 v1 H6 y1
      have hm1 : (ys xs[i])[j] ∈ ys xs[i] := List.getElem_mem hlt1
      have k5 : Kn K B F H6 σ2 (T xs[i]) := (st _).kn (k2.mono e4) kp5 (k.exB.trans (e1.trans ex5)) (k.exF.trans (e1.trans ex5))
      refine hg1 _ _ hm hm1 B F _ H6 v1 (k5.wipe vs1) r1 _ fun σ3 k3 hl3 hs3 => ⟨wipe_same (js := js1) (by rw [hl3, wipe_length]) hs3 hj1, ?_⟩
      refine he _ _ hm hm1 B F σ3 H6 k3 _ fun w H7 e7 r7 => ⟨ws, e7 _ _ hws, ?_, ?_⟩
      · rw [paired_len pw]
        refine lim_lt (Nat.le_trans ?_ pre2)
        rw [List.length_append, List.length_append, List.length_map, List.length_map, List.length_take]
        omega
      · have kp : Keep H7 (upd H7 D (.lst (ws ++ [w]))) := keep_upd (e7 _ _ hws) rfl
        refine ⟨hlt1, Evl.Ex.mut (ex5.trans e7) hD, (kp5.trans (keep_ex e7)).trans kp, ws ++ [w], upd_same, ?_⟩
        rw [take_snoc hlt1, List.map_append, ← List.append_assoc]
        exact paired_append (paired_mono (fun _ _ r => Kp.keep ((keep_ex e7).trans kp) r) pw) (.cons (Kp.keep kp r7) .nil)
    · have hj2 : j = (ys xs[i]).length := by omega
      subst hj2
      rw [List.take_length] at pw
      exact .inl ⟨okj.stop H5 (Evl.Ex.refl _), hlt, ex5, ws, hws, pw⟩
  · have hi2 : i = xs.length := by omega
    subst hi2
    rw [List.take_length] at pu
    exact .inl ⟨ok.stop H' ex, q _ H' (e1.trans ex) ⟨D, us, rfl, hus, hl, pu⟩ ⟨D, rfl, Evl.fresh_back e1 hD⟩⟩
/-! ### the dict of what has been seen -/
theorem val_dic (x : Int) : ∀ ks : List Int, (valV (ks.map fun i => ((Sum.inl i : Key), V.bl true)) (Sum.inl x)).isSome = decide (x ∈ ks)
  | [] => rfl
  | y :: ys => by
    rw [List.map_cons]
    by_cases h : y = x
    · rw [valV_pos (by rw [h])]
      simp [h]
    · have h2 : ¬ x = y := fun e => h e.symm
      rw [valV_neg (by simpa using h), val_dic x ys]
      simp [h2]
theorem put_dic {x : Int} {ks : List Int} (h : x ∉ ks) : putK (ks.map fun i => ((Sum.inl i : Key), V.bl true)) (Sum.inl x) (V.bl true) = (ks ++ [x]).map fun i => ((Sum.inl i : Key), V.bl true) := by
  unfold putK
  rw [if_neg]
  · simp
  · simp only [List.any_map, List.any_eq_true, not_exists, not_and]
    intro y hy z
    have e : y = x := by simpa using z
    exact h (e ▸ hy)
variable [Enc γ]
theorem r_dnew {n m : Nat} (h : Ev K te Γ i) : Run K (tAsg (tDisp [(te, tC (.bl true))]) (gName m)) Γ (.next (Γ.set m (.ow none (dicP [i]))) : Out γ) := fun B F σ H D k p a ha => by
  have e0 : Ex H (upd H a (.dK [])) := Evl.Ex.new ha
  refine h B F σ _ (k.mono e0) _ fun v H1 e1 r => ⟨e1 _ _ upd_same, [(Sum.inl i, V.bl true)], by rw [show v = V.int i from r]; rfl, Nat.le_of_ble_eq_true rfl, ?_⟩
  have e2 : Ex H (upd H1 a (.dK [(Sum.inl i, V.bl true)])) := Evl.Ex.mut (e0.trans e1) ha
  exact p _ _ (k.setO e2 ha upd_same rfl)
theorem ev_dnotin {n : Nat} {m : Option Addr} (h : Ev K te Γ i) (hn : Γ[n]? = some (.ow m (dicP ks))) : EvT K (tB (tDNotIn te (tVar n))) Γ (!decide (i ∈ ks)) := fun B F σ H k Q q => h B F σ H k _ fun v H1 e r => by
  obtain ⟨l, o, h1, _, _, _, h4, h5⟩ := (k.mono e).at_ n _ hn
  have h5 : o = .dK (ks.map fun i => (Sum.inl i, V.bl true)) := h5
  subst h5
  have r : v = V.int i := r
  subst r
  refine ⟨.ref l, h1, l, _, rfl, DGet.k (k := Sum.inl i) h4, ?_⟩
  rw [val_dic]
  exact ⟨_, rfl, q _ e⟩
theorem r_dput {n : Nat} {m : Option Addr} (hn : Γ[n]? = some (.ow m (dicP ks))) (h : Ev K te Γ i) (hi : i ∉ ks) (hl : ks.length < LIM) : Run K (sDPut (tVar n) te (tC (.bl true))) Γ (.next (Γ.set n (.ow m (dicP (ks ++ [i])))) : Out γ) := fun B F σ H D k p => by
  obtain ⟨l, o, h1, _, _, _, h4, h5⟩ := k.at_ n _ hn
  have h5 : o = .dK (ks.map fun i => (Sum.inl i, V.bl true)) := h5
  subst h5
  refine ⟨.ref l, h1, h B F σ H k _ fun v H1 e r => ?_⟩
  have r : v = V.int i := r
  subst r
  refine ⟨l, _, rfl, DPut.k (k := Sum.inl i) (e _ _ h4) (lim_lt (by rw [List.length_map]; omega)), p _ _ ?_⟩
  rw [put_dic hi]
  exact (k.mono e).mut hn h1 rfl
end
theorem units1 {k : Nat} {A : Around} (h : Room k A) : A.units + 1 < cLine := by
  have := h.units
  omega
/-- what is never reached -/
def tDead : TS := fun _ _ _ => False
theorem ps_dead {X : Cx} {st : Stmt} : PS X st tDead := ⟨fun _ _ _ _ _ _ h => h.elim⟩
end Dy
/-! ## Sp -/
/-! what is valid, what each def computes -/
namespace Mi
open Dy
abbrev Lot := List Int
abbrev Wire := Int × Int
def LotOk (m : Int) (l : Lot) : Prop := l.Pairwise (· < ·) ∧ ∀ x ∈ l, 0 ≤ x ∧ x < m
def within (a b : Lot) : Bool := a.all fun x => decide (x ∈ b)
def FearsOk (m : Int) (fs : List Lot) : Prop := fs ≠ [] ∧ (∀ l ∈ fs, LotOk m l) ∧ fs.Pairwise (· < ·) ∧ ∀ a ∈ fs, ∀ b ∈ fs, a ≠ b → within a b = false
def WireOk (m : Int) (p : Wire) : Prop := 0 ≤ p.1 ∧ p.1 < p.2 ∧ p.2 < m
def NetOk (m : Int) (net : List Wire) : Prop := (∀ p ∈ net, WireOk m p) ∧ net.Pairwise (fun p q => pl p < pl q)
def SizesOk (s : List Int) : Prop := s ≠ [] ∧ ∀ x ∈ s, 1 ≤ x
def GroundOk (g : List Int × List Lot) : Prop := SizesOk g.1 ∧ g.1.length ≤ 6 ∧ FearsOk g.1.length g.2
def ManyOk (m : Int) : Prop := 1 ≤ m ∧ m ≤ 6
def wireBetween (a b : Int) : Wire := if a < b then (a, b) else (b, a)
def inHouse (m i : Int) : Bool := decide (0 ≤ i) && decide (i < m)
def others (m : Int) (lot : Lot) : Lot := (rng 0 m.toNat).filter fun h => !decide (h ∈ lot)
def lotsRaw (m : Int) : List Lot := (rng 0 m.toNat).foldl (fun rows h => rows ++ rows.map fun l => l ++ [h]) [[]]
def lots (m : Int) : List Lot := sortT (lotsRaw m)
def greatestIn (rows : List Lot) : List Lot := rows.filter fun one => !(rows.any fun other => !decide (one = other) && within one other)
def greatest (ls : List Lot) : List Lot := if ssort ls = [] then [[]] else greatestIn (ssort ls)
def feared (fs : List Lot) (l : Lot) : Bool := fs.any fun f => within l f
def less (f : Lot) (h : Int) : Lot := f.filter fun x => !decide (x = h)
def blindRows (fs : List Lot) (lot : Lot) : List Lot := fs.foldl (fun rows f => if within lot f then rows ++ lot.map (less f) else rows ++ [f]) []
def blind (fs : List Lot) (lot : Lot) : List Lot := greatest (blindRows fs lot)
def touches (w : Wire) (h : Int) : Bool := decide (h ∈ [w.1, w.2])
def wired (net : List Wire) (h : Int) : Lot := sortI ((net.filter fun w => touches w h).map fun w => if decide (w.1 = h) = true then w.2 else w.1)
def markStep (lot : Lot) (marks : List Int) (w : Wire) : List Int := if (!decide (w.1 ∈ lot) && !decide (w.2 ∈ lot)) = true then marks.map fun k => if decide (k = at' marks w.2) = true then at' marks w.1 else k else marks
def marks (m : Int) (net : List Wire) (lot : Lot) : List Int := net.foldl (markStep lot) (rng 0 m.toNat)
def sideOf (m : Int) (ms : List Int) (lot : Lot) (k : Int) : Lot := (others m lot).filter fun h => decide (at' ms h = k)
def sides (m : Int) (net : List Wire) (lot : Lot) : List Lot := sortT (((rng 0 m.toNat).map (sideOf m (marks m net lot) lot)).filter fun s => decide (0 < (s.length : Int)))
def divides (m : Int) (net : List Wire) (lot : Lot) (a b : Int) : Bool := !((sides m net lot).any fun s => decide (a ∈ s) && decide (b ∈ s))
def between (fs : List Lot) (a b : Int) : List Lot := greatest (fs.map fun f => f.filter fun h => !decide (h = a) && !decide (h = b))
end Mi
namespace Dy
open PySem L2 PyProof.Rows Mi
variable (K : Fg)
def sp_a_want : Sp := sp2 K (fun (g : Bool) (_ : Str) => g = true) (fun _ _ => ())
def sp_integer_fits : Sp := sp1 K (fun (_ : Int) => True) (fun _ => true)
def sp_number_fits : Sp := sp1 K (fun (_ : Int) => True) (fun i => decide (0 ≤ i))
def sp_many_fits : Sp := sp1 K (fun (_ : Int) => True) (fun i => decide (1 ≤ i))
def sp_sizes_fit : Sp := sp1 K SizesOk (fun _ => true)
def sp_house_fits : Sp := sp2 K (fun (_ _ : Int) => True) inHouse
def sp_lot_fits : Sp := sp2 K LotOk (fun _ _ => true)
def sp_is_lots : Sp := sp2 K (fun (m : Int) (ls : List Lot) => ∀ l ∈ ls, LotOk m l) (fun _ _ => true)
def sp_fears_fit : Sp := sp2 K (fun (m : Int) (fs : List Lot) => FearsOk m fs ∧ fs.length ≤ 100) (fun _ _ => true)
def sp_ground_fits : Sp := sp1 K (fun (g : List Int × List Lot) => GroundOk g ∧ g.2.length ≤ 100) (fun _ => true)
def sp_lot_within : Sp := sp2 K (fun (_ _ : Lot) => True) within
def sp_others_in : Sp := sp2 K (fun (m : Int) (_ : Lot) => -1000 ≤ m ∧ m ≤ 1000) others
def sp_lots_in : Sp := sp1 K (fun (m : Int) => 0 ≤ m ∧ m ≤ 6) (fun m => Lst.mk (lots m))
def sp_greatest_in : Sp := sp1 K (fun (ls : Sq Lot) => Few ls.l) (fun ls => greatest ls.l)
def sp_feared_in : Sp := sp2 K (fun (_ : List Lot) (_ : Lot) => True) feared
def sp_blind_in : Sp := sp2 K (fun (fs : List Lot) (lot : Lot) => (blindRows fs lot).length ≤ 62) blind
def sp_wire_fits : Sp := sp2 K WireOk (fun _ _ => true)
def sp_net_fits : Sp := sp2 K (fun (m : Int) (net : List Wire) => NetOk m net ∧ net.length ≤ 1000) (fun _ _ => true)
def sp_two_fit : Sp := sp3 K (fun (_ _ _ : Int) => True) (fun m a b => inHouse m b && !decide (b = a))
def sp_wire_between : Sp := sp2 K (fun (_ _ : Int) => True) wireBetween
def sp_bare_wired : Sp := sp2 K (fun (_ : List Wire) (_ : Int) => True) wired
def sp_bare_sides : Sp := sp3 K (fun (m : Int) (net : List Wire) (_ : Lot) => 0 ≤ m ∧ m ≤ 6 ∧ ∀ p ∈ net, WireOk m p) sides
def sp_bare_divides : Sp := sp5 K (fun (m : Int) (net : List Wire) (_ : Lot) (_ _ : Int) => 0 ≤ m ∧ m ≤ 6 ∧ ∀ p ∈ net, WireOk m p) divides
def sp_bare_between : Sp := sp3 K (fun (fs : List Lot) (_ _ : Int) => fs.length ≤ 62) between
end Dy
/-! ## Sp2 -/
namespace Mi
open Dy
/-! a shortest way -/
def grow (lot : Lot) (way : Lot) (st : List Int × List Lot) (h : Int) : List Int × List Lot := if (!decide (h ∈ lot) && !decide (h ∈ st.1)) = true then (st.1 ++ [h], st.2 ++ [way ++ [h]]) else st
def growAll (net : List Wire) (lot : Lot) (way : Lot) (st : List Int × List Lot) : List Int × List Lot := (wired net (lastD way)).foldl (grow lot way) st
def layer (net : List Wire) (lot : Lot) (other : Int) : List Lot → List Int × List Lot → Lot ⊕ (List Int × List Lot)
  | [], st => .inr st
  | way :: ws, st => if decide (lastD way = other) = true then .inl way else layer net lot other ws (growAll net lot way st)
def bfs (net : List Wire) (lot : Lot) (other : Int) : Nat → List Lot → List Int → Option Lot
  | 0, _, _ => none
  | n + 1, ways, seen => if decide (0 < (ways.length : Int)) = true then (match layer net lot other ways (seen, []) with
    | .inl w => some w
    | .inr st => bfs net lot other n st.2 st.1) else none
def houses (net : List Wire) : List Int := net.flatMap fun p => [p.1, p.2]
def unseen (net : List Wire) (seen : List Int) : Nat := ((houses net).filter fun h => !decide (h ∈ seen)).length
def bareWay (net : List Wire) (lot : Lot) (one other : Int) : Option Lot := bfs net lot other (2 * (houses net).length + 2) [[one]] [one]
/-! the law's own walks -/
def jstep (lot : Lot) (st : List Int × Bool) (p : Wire) : List Int × Bool := if (decide (p.1 ∈ st.1) && (!decide (p.2 ∈ st.1) && !decide (p.2 ∈ lot))) = true then (st.1 ++ [p.2], true) else st
def jwire (lot : Lot) (st : List Int × Bool) (p : Wire) : List Int × Bool := jstep lot (jstep lot st p) (p.2, p.1)
def jloop (net : List Wire) (lot : Lot) : Nat → List Int × Bool → List Int
  | 0, st => st.1
  | n + 1, st => if st.2 = true then jloop net lot n (net.foldl (jwire lot) (st.1, false)) else st.1
def joined (net : List Wire) (lot : Lot) (h : Int) : List Int := jloop net lot (2 * (houses net).length + 2) ([h], true)
def dividedBy (m : Int) (net : List Wire) (lot : Lot) : Bool := decide (1 < ((others m lot).length : Int)) && decide (((joined net lot (at' (others m lot) 0)).length : Int) < ((others m lot).length : Int))
def divided (m : Int) (net : List Wire) (fe : List Lot) : List Lot := fe.filter (dividedBy m net)
def lstep (lot : Lot) (lay : List Int) (st : List Int × List Int) (p : Wire) : List Int × List Int := if (decide (p.1 ∈ lay) && (!decide (p.2 ∈ st.2) && !decide (p.2 ∈ lot))) = true then (st.1 ++ [p.2], st.2 ++ [p.2]) else st
def lwire (lot : Lot) (lay : List Int) (st : List Int × List Int) (p : Wire) : List Int × List Int := lstep lot lay (lstep lot lay st p) (p.2, p.1)
def lloop (net : List Wire) (lot : Lot) (other : Int) : Nat → List Int → List Int → Int → Int
  | 0, _, _, _ => 0
  | n + 1, lay, seen, many => if lay = [] then 0 else if other ∈ lay then many else lloop net lot other n (net.foldl (lwire lot lay) ([], seen)).1 (net.foldl (lwire lot lay) ([], seen)).2 (many + 1)
def long (net : List Wire) (lot : Lot) (one other : Int) : Int := lloop net lot other (2 * (houses net).length + 2) [one] [one] 1
def lawGreatest (ls : List Lot) : List Lot := (ssort ls).filter fun l => !(ls.any fun wide => !decide (l = wide) && within l wide)
def lawFeared (m : Int) (fs : List Lot) : List Lot := (lots m).filter fun l => fs.any fun f => within l f
def mesh (m : Int) : List Wire := (rng 0 m.toNat).flatMap fun a => (rng (a + 1) (m - (a + 1)).toNat).map fun b => (a, b)
def lawBetween (fe : List Lot) (a b : Int) : List Lot := lawGreatest (fe.filter fun l => !decide (a ∈ l) && !decide (b ∈ l))
def anew (ls : List Lot) (a b : Int) : List Lot := ls.map fun l => l.map fun h => h - (if decide (a < h) = true then 1 else 0) - (if decide (b < h) = true then 1 else 0)
def leftRow (h : Int) (f : Lot) : Lot := (f.filter fun x => !decide (x = h)).map fun x => x - (if decide (h < x) = true then 1 else 0)
def leftIn (g : List Int × List Lot) (h : Int) : List Int × List Lot := (cutX g.1 none (some h) ++ cutX g.1 (some (h + 1)) none, greatest (g.2.map (leftRow h)))
def lawLeft (m : Int) (fs : List Lot) (a b : Int) : List Lot := (leftIn (leftIn (List.replicate m.toNat 1, fs) (max a b)) (min a b)).2
def fearedLots (m : Int) (fs : List Lot) : List Lot := (lots m).filter (feared fs)
def dividing (m : Int) (net : List Wire) (fs : List Lot) : List Lot := (fearedLots m fs).filter fun l => decide (1 < ((sides m net l).length : Int))
def sturdy (m : Int) (net : List Wire) (fs : List Lot) : Bool := decide (((dividing m net fs).length : Int) = 0)
def without (net : List Wire) (w : Wire) : List Wire := net.filter fun o => !decide (o = w)
def needed (m : Int) (net : List Wire) (fs : List Lot) : List Wire := net.filter fun w => (fearedLots m fs).any fun l => decide (1 < ((sides m (without net w) l).length : Int))
def canSend (net : List Wire) (fs : List Lot) (a b : Int) : Bool := (between fs a b).all fun l => (bareWay net l a b).isSome
def netBy (ps : List Wire) : List Wire := ssortW (ps.map fun p => wireBetween p.1 p.2)
def lawDue (m : Int) (net : List Wire) (fe : List Lot) : List Wire := net.filter fun w => !decide (divided m (without net w) fe = [])
end Mi
namespace Dy
open PySem L2 PyProof.Rows Mi
/-- what secret_paper answers: its word alone is looked at -/
structure Paper where
  word : Str
instance : Kp Paper where
  R K H v p := ∃ a vs, v = .ref a ∧ SqT K H a (V.str p.word :: vs)
  mono e := fun ⟨a, vs, h1, h2⟩ => ⟨a, vs, h1, Evl.ex_t e h2⟩
  nw _ _ := True
  nwm _ h := h
  keep e := fun ⟨a, vs, h1, h2⟩ => ⟨a, vs, h1, keep_t e h2⟩
  nwT _ _ := trivial
variable (K : Fg)
abbrev Net6 (m : Int) (net : List Wire) : Prop := ManyOk m ∧ NetOk m net
abbrev Fear6 (m : Int) (fs : List Lot) : Prop := ManyOk m ∧ FearsOk m fs ∧ fs.length ≤ 62
def PairOk (m a b : Int) : Prop := 0 ≤ a ∧ a < m ∧ 0 ≤ b ∧ b < m ∧ b ≠ a
def WaysOk (net : List Wire) : Prop := net.length ≤ 1000
def sp_bare_way : Sp := sp4 K (fun (net : List Wire) (_ : Lot) (_ _ : Int) => WaysOk net) bareWay
def sp_between_lots : Sp := sp4 K (fun (m : Int) (fs : List Lot) (a b : Int) => Fear6 m fs ∧ PairOk m a b) (fun _ fs a b => between fs a b)
def sp_secret_paper : Sp := sp5 K (fun (m : Int) (net : List Wire) (fs : List Lot) (a b : Int) => Net6 m net ∧ Fear6 m fs ∧ PairOk m a b) (fun _ net fs a b => Paper.mk (if canSend net fs a b then "ways" else "divided"))
def sp_can_send : Sp := sp5 K (fun (m : Int) (net : List Wire) (fs : List Lot) (a b : Int) => Net6 m net ∧ Fear6 m fs ∧ PairOk m a b) (fun _ net fs a b => canSend net fs a b)
def sp_left_in : Sp := sp2 K (fun (g : List Int × List Lot) (h : Int) => g.1.length ≤ 6 ∧ g.2.length ≤ 31 ∧ 0 ≤ h ∧ h ≤ 6) leftIn
def sp_left_out : Sp := sp2 K (fun (g : List Int × List Lot) (h : Int) => GroundOk g ∧ g.2.length ≤ 31 ∧ 1 < g.1.length ∧ 0 ≤ h ∧ h < g.1.length) leftIn
def sp_feared_too : Sp := sp2 K (fun (g : List Int × List Lot) (lot : Lot) => GroundOk g ∧ g.2.length ≤ 31 ∧ LotOk g.1.length lot) (fun g lot => (g.1, greatest (g.2 ++ [lot])))
def sp_calmed : Sp := sp2 K (fun (g : List Int × List Lot) (lot : Lot) => GroundOk g ∧ g.2.length ≤ 100 ∧ (blindRows g.2 lot).length ≤ 62 ∧ LotOk g.1.length lot ∧ lot ≠ []) (fun g lot => (g.1, blind g.2 lot))
def sp_mesh_of : Sp := sp1 K ManyOk mesh
def WayOk (m : Int) (net : List Wire) (w : Lot) : Prop := w.Nodup ∧ (∀ h ∈ w, 0 ≤ h ∧ h < m) ∧ ∀ (i : Nat) (a b : Int), w[i]? = some a → w[i + 1]? = some b → wireBetween a b ∈ net
def sp_is_way : Sp := sp3 K (fun (m : Int) (net : List Wire) (w : Lot) => Net6 m net ∧ WayOk m net w) (fun _ _ _ => true)
def sp_wired_to : Sp := sp3 K (fun (m : Int) (net : List Wire) (h : Int) => Net6 m net ∧ 0 ≤ h ∧ h < m) (fun _ net h => wired net h)
def sp_feared_lots : Sp := sp2 K Fear6 fearedLots
def sp_sides_of : Sp := sp3 K (fun (m : Int) (net : List Wire) (lot : Lot) => Net6 m net ∧ LotOk m lot) sides
def sp_divides : Sp := sp5 K (fun (m : Int) (net : List Wire) (lot : Lot) (a b : Int) => Net6 m net ∧ LotOk m lot ∧ PairOk m a b ∧ a ∉ lot ∧ b ∉ lot) divides
def sp_dividing_lots : Sp := sp3 K (fun (m : Int) (net : List Wire) (fs : List Lot) => Net6 m net ∧ Fear6 m fs) dividing
def sp_is_sturdy : Sp := sp3 K (fun (m : Int) (net : List Wire) (fs : List Lot) => Net6 m net ∧ Fear6 m fs) sturdy
def sp_needed_wires : Sp := sp3 K (fun (m : Int) (net : List Wire) (fs : List Lot) => Net6 m net ∧ Fear6 m fs ∧ sturdy m net fs = true) needed
def sp_way_past : Sp := sp5 K (fun (m : Int) (net : List Wire) (lot : Lot) (a b : Int) => Net6 m net ∧ LotOk m lot ∧ PairOk m a b ∧ a ∉ lot ∧ b ∉ lot) (fun _ net lot a b => bareWay net lot a b)
def sp_pairs_fit : Sp := sp2 K (fun (m : Int) (ps : List Wire) => ∀ p ∈ ps, PairOk m p.1 p.2) (fun _ _ => true)
def sp_net_by : Sp := sp1 K (fun (ps : List Wire) => ps.length ≤ 62) netBy
def sp__law_within : Sp := sp2 K (fun (_ _ : Lot) => True) within
def sp__law_others : Sp := sp2 K (fun (m : Int) (_ : Lot) => -1000 ≤ m ∧ m ≤ 1000) others
def sp__law_lots : Sp := sp1 K (fun (m : Int) => 0 ≤ m ∧ m ≤ 6) (fun m => Lst.mk (lots m))
def sp__law_greatest : Sp := sp1 K (fun (ls : Lst Lot) => Few ls.l ∧ ls.l.length ≤ 1000) (fun ls => lawGreatest ls.l)
def sp__law_feared : Sp := sp2 K (fun (m : Int) (_ : List Lot) => 0 ≤ m ∧ m ≤ 6) (fun m fs => Lst.mk (lawFeared m fs))
def sp__law_mesh : Sp := sp1 K ManyOk (fun m => Lst.mk (mesh m))
def sp__law_joined : Sp := sp3 K (fun (net : Sq Wire) (_ : Lot) (_ : Int) => WaysOk net.l) (fun net lot h => Lst.mk (joined net.l lot h))
def sp__law_divided : Sp := sp3 K (fun (m : Int) (net : Sq Wire) (fe : Lst Lot) => (-1000 ≤ m ∧ m ≤ 1000 ∧ WaysOk net.l) ∧ fe.l.length ≤ 1000) (fun m net fe => Lst.mk (divided m net.l fe.l))
def sp__law_long : Sp := sp4 K (fun (net : List Wire) (_ : Lot) (_ _ : Int) => WaysOk net) long
def sp__law_between : Sp := sp3 K (fun (fe : Lst Lot) (a b : Int) => fe.l.length ≤ 64 ∧ Few (fe.l.filter fun l => !decide (a ∈ l) && !decide (b ∈ l))) (fun fe a b => lawBetween fe.l a b)
def sp__law_is_house : Sp := sp2 K (fun (_ _ : Int) => True) (fun h m => inHouse m h)
def sp__law_anew : Sp := sp3 K (fun (_ : List Lot) (_ _ : Int) => True) anew
end Dy
/-! ## Tm2 -/
namespace Dy
open PySem L2 PyProof.Rows
section
variable {P : Program} {w : World} {K : Fg} {mg : Str → Option Value} {base : Heap} {f : Addr}

def rd_a_want (P : Program) (w : World) (K : Fg) : TS := (tIfS (tNot (tB (tVar 0))) tDead tNext)
theorem sc_a_want : FnScope ["good", "word"] ["good", "word"] (defScope Hd.s_a_want) := ⟨rfl, rfl, rfl, by decide +kernel, rfl, by decide +kernel, by decide +kernel⟩
theorem tm_a_want (T : Hd.Tx K mg)  : BodyOk P w K mg base ["good", "word"] "a_want" Hd.s_a_want f 0 (fun t => t = rd_a_want P w K) :=
  fun cdv A outer s H E hr => ⟨_, (pss_one (ps_if (pt_not (pt_val (pv 0))) (pss_one ps_dead) pss_nil)), rfl⟩
def rd_fears_fit (P : Program) (w : World) (K : Fg) : TS := (tSeq (tIfS (tOr (tNot (tB (tCall (sp_is_lots K) [] E0 (tCons (tVar 0) (tCons (tVar 1) tNil))))) (tTest (tOp (rEqU K) (tCB (rLenQ K) (tCons (tVar 1) tNil)) (tC (.int 0))))) (tRet (tC (.bl false))) tNext) (tSeq (tFor (iRng2 (tCons (tC (.int 1)) (tCons (tCB (rLenQ K) (tCons (tVar 1) tNil)) tNil))) (gName 2) (tIfS (tTest (tOp (rLeU K) (tOp (rIxU K) (tVar 1) (tVar 2)) (tOp (rIxU K) (tVar 1) (tOp (rI0 fun i j => V.int (i - j)) (tVar 2) (tC (.int 1)))))) (tRet (tC (.bl false))) tNext)) (tRet (tNotV (tCB (rAny K) (tCons (tLc2 (iSeq K (tVar 1)) (gName 3) tYes (iSeq K (tVar 1)) (gName 4) tYes (tAndV (tOp (rNeU K) (tVar 3) (tVar 4)) (tCall (sp_lot_within K) [] E0 (tCons (tVar 3) (tCons (tVar 4) tNil)))) [3, 4] [4]) tNil))))))
theorem sc_fears_fit : FnScope ["many", "thing", "at", "one", "other"] ["many", "thing"] (defScope Hd.s_fears_fit) := ⟨rfl, rfl, rfl, by decide +kernel, rfl, by decide +kernel, by decide +kernel⟩
theorem tm_fears_fit (T : Hd.Tx K mg) (c_lot_within : Cal P w K mg base 1 "lot_within" ["one", "other"] (sp_lot_within K)) (c_is_lots : Cal P w K mg base 5 "is_lots" ["many", "thing"] (sp_is_lots K)) : BodyOk P w K mg base ["many", "thing", "at", "one", "other"] "fears_fit" Hd.s_fears_fit f 5 (fun t => t = rd_fears_fit P w K) :=
  fun cdv A outer s H E hr => ⟨_, (pss_cons (ps_if (PW.pt (pw_or (pt_not (pt_val (pc c_is_lots (hr.mono (by decide)) rfl (pa_cons (pv 0) (pa_cons (pv 1) pa_nil))))) (pw_or1 (pt_cmpR (op_eqU hr.units) (pe_callB call_lenQ (by rfl) T.b_len PySem.boot_len (pa_cons (pv 1) pa_nil)) pe_int (nomark _))))) (pss_one (ps_ret pe_bl)) pss_nil) (pss_cons (ps_for PassesOwn.never rfl (pi_range2 rfl T.b_range (pa_cons pe_int (pa_cons (pe_callB call_lenQ (by rfl) T.b_len PySem.boot_len (pa_cons (pv 1) pa_nil)) pa_nil))) (pg_name (i := 2) sc_fears_fit.nd rfl (Or.inl rfl)) (pss_one (ps_if (pt_cmpR (op_leU hr.units0) (pe_ix ix_U (pv 1) (pv 2) (fun _ _ => rfl)) (pe_ix ix_U (pv 1) (pe_op op_sub (pv 2) pe_int) (fun _ _ => rfl)) (nomark _)) (pss_one (ps_ret pe_bl)) pss_nil))) (pss_one (ps_ret (pe_not (pe_callB (cr_any rfl) (by rfl) T.b_any (by decide +kernel) (pa_cons (pe_lc2 (own := [("one", 3), ("other", 4)]) (vs1 := [4]) rfl sc_fears_fit.nd (pi_seq (pv 1)) (blkOk_by (by kernel_rfl)) (by decide) (fun _ _ _ _ _ => (pg_name (i := 3) sc_fears_fit.nd rfl (by first | exact Or.inl rfl | exact Or.inr rfl))) (fun _ _ _ _ _ => pts_nil) (fun _ _ _ _ _ => (pi_seq (pv 1))) (fun _ _ _ _ _ => (pg_name (i := 4) sc_fears_fit.nd rfl (by first | exact Or.inl rfl | exact Or.inr rfl))) (fun _ _ _ _ _ => pts_nil) (fun _ _ _ _ _ => (pe_and (pe_cmpR (op_neU hr.units) (pv 3) (pv 4) (nomark _)) (pe_one (pc c_lot_within (hr.mono (by decide)) rfl (pa_cons (pv 3) (pa_cons (pv 4) pa_nil))))))) pa_nil))))))), rfl⟩
def rd_lots_in (P : Program) (w : World) (K : Fg) : TS := (tSeq (tAsg (tLst (tCons (tTup tNil) tNil)) (gName 1)) (tSeq (tFor (iRng1 (tCons (tVar 0) tNil)) (gName 2) (tAsg (tOp (rAddU K) (tVar 1) (tLc (iSeq K (tVar 1)) (gName 3) tYes (tOp (rAddU K) (tVar 3) (tTup (tCons (tVar 2) tNil))) [3])) (gName 1))) (tRet (tCB (rSortU K) (tCons (tVar 1) tNil)))))
theorem sc_lots_in : FnScope ["many", "rows", "house", "lot"] ["many"] (defScope Hd.s_lots_in) := ⟨rfl, rfl, rfl, by decide +kernel, rfl, by decide +kernel, by decide +kernel⟩
theorem tm_lots_in (T : Hd.Tx K mg)  : BodyOk P w K mg base ["many", "rows", "house", "lot"] "lots_in" Hd.s_lots_in f 0 (fun t => t = rd_lots_in P w K) :=
  fun cdv A outer s H E hr => ⟨_, (pss_cons (ps_set (i := 1) sc_lots_in.nd rfl (Or.inl rfl) (pe_lst (pa_cons (pe_tup pa_nil) pa_nil))) (pss_cons (ps_for PassesOwn.never rfl (pi_range1 rfl T.b_range (pa_cons (pv 0) pa_nil)) (pg_name (i := 2) sc_lots_in.nd rfl (Or.inr rfl)) (pss_one (ps_set (i := 1) sc_lots_in.nd rfl (Or.inl rfl) (pe_op op_addU (pv 1) (pe_lc (own := [("lot", 3)]) rfl sc_lots_in.nd (pi_seq (pv 1)) (blkOk_by (by kernel_rfl)) (fun _ _ _ _ _ => (pg_name (i := 3) sc_lots_in.nd rfl (by first | exact Or.inl rfl | exact Or.inr rfl))) (fun _ _ _ _ _ => pts_nil) (fun _ _ _ _ _ => (pe_op op_addU (pv 3) (pe_tup (pa_cons (pv 2) pa_nil))))))))) (pss_one (ps_ret (pe_callB (cr_sortU hr.units) (by rfl) T.b_sorted (by decide +kernel) (pa_cons (pv 1) pa_nil)))))), rfl⟩
def rd_greatest_in (P : Program) (w : World) (K : Fg) : TS := (tSeq (tAsg (tSS K P w (tVar 0)) (gName 1)) (tSeq (tIfS (tTest (tOp (rEqU K) (tCB (rLenQ K) (tCons (tVar 1) tNil)) (tC (.int 0)))) (tRet (tTup (tCons (tTup tNil) tNil))) tNext) (tRet (tCB (rTupQ K) (tCons (tLc (iSeq K (tVar 1)) (gName 2) (tNot (tB (tCB (rAny K) (tCons (tLc (iSeq K (tVar 1)) (gName 3) tYes (tAndV (tOp (rNeU K) (tVar 2) (tVar 3)) (tCall (sp_lot_within K) [] E0 (tCons (tVar 2) (tCons (tVar 3) tNil)))) [3]) tNil)))) (tVar 2) [2]) tNil)))))
theorem sc_greatest_in : FnScope ["lots", "rows", "one", "other"] ["lots"] (defScope Hd.s_greatest_in) := ⟨rfl, rfl, rfl, by decide +kernel, rfl, by decide +kernel, by decide +kernel⟩
theorem tm_greatest_in (T : Hd.Tx K mg) (c_lot_within : Cal P w K mg base 1 "lot_within" ["one", "other"] (sp_lot_within K)) : BodyOk P w K mg base ["lots", "rows", "one", "other"] "greatest_in" Hd.s_greatest_in f 1 (fun t => t = rd_greatest_in P w K) :=
  fun cdv A outer s H E hr => ⟨_, (pss_cons (ps_set (i := 1) sc_greatest_in.nd rfl (Or.inr rfl) (pe_callB (cr_sortSU rfl hr.units) (by rfl) T.b_sorted (by decide +kernel) (pa_cons (pe_callTy (cr_setU rfl hr.units) (by rfl) T.b_set (by decide +kernel) (pa_cons (pv 0) pa_nil)) pa_nil))) (pss_cons (ps_if (pt_cmpR (op_eqU hr.units) (pe_callB call_lenQ (by rfl) T.b_len PySem.boot_len (pa_cons (pv 1) pa_nil)) pe_int (nomark _)) (pss_one (ps_ret (pe_tup (pa_cons (pe_tup pa_nil) pa_nil)))) pss_nil) (pss_one (ps_ret (pe_callTy call_tupQ (by rfl) T.b_tuple (by decide +kernel) (pa_cons (pe_lc (own := [("one", 2)]) rfl sc_greatest_in.nd (pi_seq (pv 1)) (blkOk_by (by kernel_rfl)) (fun _ _ _ _ _ => (pg_name (i := 2) sc_greatest_in.nd rfl (by first | exact Or.inl rfl | exact Or.inr rfl))) (fun _ _ _ _ _ => (pts_one (pt_not (pt_val (pe_callB (cr_any rfl) (by rfl) T.b_any (by decide +kernel) (pa_cons (pe_lc (own := [("other", 3)]) rfl sc_greatest_in.nd (pi_seq (pv 1)) (blkOk_by (by kernel_rfl)) (fun _ _ _ _ _ => (pg_name (i := 3) sc_greatest_in.nd rfl (by first | exact Or.inl rfl | exact Or.inr rfl))) (fun _ _ _ _ _ => pts_nil) (fun _ _ _ _ _ => (pe_and (pe_cmpR (op_neU hr.units) (pv 2) (pv 3) (nomark _)) (pe_one (pc c_lot_within (hr.mono (by decide)) rfl (pa_cons (pv 2) (pa_cons (pv 3) pa_nil))))))) pa_nil)))))) (fun _ _ _ _ _ => (pv 2))) pa_nil)))))), rfl⟩
def rd_blind_in (P : Program) (w : World) (K : Fg) : TS := (tSeq (tAsg (tLst tNil) (gName 2)) (tSeq (tFor (iSeq K (tVar 0)) (gName 3) (tIfS (tB (tCall (sp_lot_within K) [] E0 (tCons (tVar 1) (tCons (tVar 3) tNil)))) (tAsg (tOp (rAddU K) (tVar 2) (tLc (iSeq K (tVar 1)) (gName 4) tYes (tCB (rTupQ K) (tCons (tLc (iSeq K (tVar 3)) (gName 5) (tTest (tOp (rNeU K) (tVar 5) (tVar 4))) (tVar 5) [5]) tNil)) [4])) (gName 2)) (tDrop (tBM K "list" rAppend (tVar 2) (tCons (tVar 3) tNil))))) (tRet (tCall (sp_greatest_in K) [] E0 (tCons (tVar 2) tNil)))))
theorem sc_blind_in : FnScope ["fears", "lot", "rows", "fear", "lacking", "house"] ["fears", "lot"] (defScope Hd.s_blind_in) := ⟨rfl, rfl, rfl, by decide +kernel, rfl, by decide +kernel, by decide +kernel⟩
theorem tm_blind_in (T : Hd.Tx K mg) (c_greatest_in : Cal P w K mg base 2 "greatest_in" ["lots"] (sp_greatest_in K)) (c_lot_within : Cal P w K mg base 1 "lot_within" ["one", "other"] (sp_lot_within K)) : BodyOk P w K mg base ["fears", "lot", "rows", "fear", "lacking", "house"] "blind_in" Hd.s_blind_in f 2 (fun t => t = rd_blind_in P w K) :=
  fun cdv A outer s H E hr => ⟨_, (pss_cons (ps_set (i := 2) sc_blind_in.nd rfl (Or.inl rfl) (pe_lst pa_nil)) (pss_cons (ps_for PassesOwn.never rfl (pi_seq (pv 0)) (pg_name (i := 3) sc_blind_in.nd rfl (Or.inr rfl)) (pss_one (ps_if (pt_val (pc c_lot_within (hr.mono (by decide)) rfl (pa_cons (pv 1) (pa_cons (pv 3) pa_nil)))) (pss_one (ps_set (i := 2) sc_blind_in.nd rfl (Or.inl rfl) (pe_op op_addU (pv 2) (pe_lc (own := [("lacking", 4)]) rfl sc_blind_in.nd (pi_seq (pv 1)) (blkOk_by (by kernel_rfl)) (fun _ _ _ _ _ => (pg_name (i := 4) sc_blind_in.nd rfl (by first | exact Or.inl rfl | exact Or.inr rfl))) (fun _ _ _ _ _ => pts_nil) (fun _ _ _ _ _ => (pe_callTy call_tupQ (by rfl) T.b_tuple (by decide +kernel) (pa_cons (pe_lc (own := [("house", 5)]) rfl sc_blind_in.nd (pi_seq (pv 3)) (blkOk_by (by kernel_rfl)) (fun _ _ _ _ _ => (pg_name (i := 5) sc_blind_in.nd rfl (by first | exact Or.inl rfl | exact Or.inr rfl))) (fun _ _ _ _ _ => (pts_one (pt_cmpR (op_neU hr.units) (pv 5) (pv 4) (nomark _)))) (fun _ _ _ _ _ => (pv 5))) pa_nil))))))) (pss_one (ps_expr (pe_bm PySem.F.plainAttrs_list PySem.F.slot_list_append PySem.F.type_list_append mt_append (pv 2) (pa_cons (pv 3) pa_nil))))))) (pss_one (ps_ret (pc c_greatest_in (hr.mono (by decide)) rfl (pa_cons (pv 2) pa_nil)))))), rfl⟩
def rd_bare_sides (P : Program) (w : World) (K : Fg) : TS := (tSeq (tAsg (tLstRange2 (tVar 0)) (gName 3)) (tSeq (tFor (iSeq K (tVar 1)) (gTup K 2 (gCons (gName 4) (gCons (gName 5) gNil))) (tIfS (tAnd (tTest (tOp (rInU K true) (tVar 4) (tVar 2))) (tTest (tOp (rInU K true) (tVar 5) (tVar 2)))) (tSeq (tAsg (tTup (tCons (tOp (rIxU K) (tVar 3) (tVar 5)) (tCons (tOp (rIxU K) (tVar 3) (tVar 4)) tNil))) (gTup K 2 (gCons (gName 6) (gCons (gName 7) gNil)))) (tAsg (tLc (iSeq K (tVar 3)) (gName 10) tYes (tIf (tTest (tOp (rEqU K) (tVar 10) (tVar 6))) (tVar 7) (tVar 10)) [10]) (gName 3))) tNext)) (tSeq (tAsg (tCall (sp_others_in K) [] E0 (tCons (tVar 0) (tCons (tVar 2) tNil))) (gName 8)) (tSeq (tAsg (tLc (iRng1 (tCons (tVar 0) tNil)) (gName 10) tYes (tCB (rTupQ K) (tCons (tLc (iSeq K (tVar 8)) (gName 11) (tTest (tOp (rEqU K) (tOp (rIxU K) (tVar 3) (tVar 11)) (tVar 10))) (tVar 11) [11]) tNil)) [10]) (gName 9)) (tRet (tCB (rTupQ K) (tCons (tCB (rSortU K) (tCons (tLc (iSeq K (tVar 9)) (gName 12) (tTest (tOp (rI0 fun i j => V.bl (decide (j < i))) (tCB (rLenQ K) (tCons (tVar 12) tNil)) (tC (.int 0)))) (tVar 12) [12]) tNil)) tNil)))))))
theorem sc_bare_sides : FnScope ["many", "net", "lot", "marks", "one", "other", "old", "new", "outside", "sides", "mark", "house", "side"] ["many", "net", "lot"] (defScope Hd.s_bare_sides) := ⟨rfl, rfl, rfl, by decide +kernel, rfl, by decide +kernel, by decide +kernel⟩
theorem tm_bare_sides (T : Hd.Tx K mg) (c_others_in : Cal P w K mg base 1 "others_in" ["many", "lot"] (sp_others_in K)) : BodyOk P w K mg base ["many", "net", "lot", "marks", "one", "other", "old", "new", "outside", "sides", "mark", "house", "side"] "bare_sides" Hd.s_bare_sides f 1 (fun t => t = rd_bare_sides P w K) :=
  fun cdv A outer s H E hr => ⟨_, (pss_cons (ps_set (i := 3) sc_bare_sides.nd rfl (Or.inr rfl) (pe_listRg rfl rfl T.b_list (prg_1 rfl T.b_range (pv 0)))) (pss_cons (ps_for PassesOwn.never rfl (pi_seq (pv 1)) (pg_tup (by rfl) (pgs_cons (pg_name (i := 4) sc_bare_sides.nd rfl (Or.inl rfl)) (pgs_cons (pg_name (i := 5) sc_bare_sides.nd rfl (Or.inl rfl)) pgs_nil))) (pss_one (ps_if (PW.pt (pw_and (pt_cmpR (op_notInU (units65 hr)) (pv 4) (pv 2) (by rfl)) (pw_and1 (pt_cmpR (op_notInU (units65 hr)) (pv 5) (pv 2) (by rfl))))) (pss_cons (ps_asg (pe_tup (pa_cons (pe_ix ix_U (pv 3) (pv 5) (fun _ _ => rfl)) (pa_cons (pe_ix ix_U (pv 3) (pv 4) (fun _ _ => rfl)) pa_nil))) (pg_tup (by rfl) (pgs_cons (pg_name (i := 6) sc_bare_sides.nd rfl (Or.inr rfl)) (pgs_cons (pg_name (i := 7) sc_bare_sides.nd rfl (Or.inr rfl)) pgs_nil)))) (pss_one (ps_set (i := 3) sc_bare_sides.nd rfl (Or.inr rfl) (pe_lc (own := [("mark", 10)]) rfl sc_bare_sides.nd (pi_seq (pv 3)) (blkOk_by (by kernel_rfl)) (fun _ _ _ _ _ => (pg_name (i := 10) sc_bare_sides.nd rfl (by first | exact Or.inl rfl | exact Or.inr rfl))) (fun _ _ _ _ _ => pts_nil) (fun _ _ _ _ _ => (pe_ifExp (pt_cmpR (op_eqU hr.units) (pv 10) (pv 6) (nomark _)) (pv 7) (pv 10))))))) pss_nil))) (pss_cons (ps_set (i := 8) sc_bare_sides.nd rfl (Or.inr rfl) (pc c_others_in (hr.mono (by decide)) rfl (pa_cons (pv 0) (pa_cons (pv 2) pa_nil)))) (pss_cons (ps_setLc (i := 9) (own := [("mark", 10)]) rfl sc_bare_sides.nd rfl rfl (sw_true rfl rfl rfl (by kernel_rfl)) (pi_range1 rfl T.b_range (pa_cons (pv 0) pa_nil)) (blkOk_by (by kernel_rfl)) (fun _ _ _ _ _ => (pg_name (i := 10) sc_bare_sides.nd rfl (by first | exact Or.inl rfl | exact Or.inr rfl))) (fun _ _ _ _ _ => pts_nil) (fun _ _ _ _ _ => (pe_callTy call_tupQ (by rfl) T.b_tuple (by decide +kernel) (pa_cons (pe_lc (own := [("house", 11)]) rfl sc_bare_sides.nd (pi_seq (pv 8)) (blkOk_by (by kernel_rfl)) (fun _ _ _ _ _ => (pg_name (i := 11) sc_bare_sides.nd rfl (by first | exact Or.inl rfl | exact Or.inr rfl))) (fun _ _ _ _ _ => (pts_one (pt_cmpR (op_eqU hr.units) (pe_ix ix_U (pv 3) (pv 11) (fun _ _ => rfl)) (pv 10) (nomark _)))) (fun _ _ _ _ _ => (pv 11))) pa_nil)))) (pss_one (ps_ret (pe_callTy call_tupQ (by rfl) T.b_tuple (by decide +kernel) (pa_cons (pe_callB (cr_sortU hr.units) (by rfl) T.b_sorted (by decide +kernel) (pa_cons (pe_lc (own := [("side", 12)]) rfl sc_bare_sides.nd (pi_seq (pv 9)) (blkOk_by (by kernel_rfl)) (fun _ _ _ _ _ => (pg_name (i := 12) sc_bare_sides.nd rfl (by first | exact Or.inl rfl | exact Or.inr rfl))) (fun _ _ _ _ _ => (pts_one (pt_cmpR op_gt (pe_callB call_lenQ (by rfl) T.b_len PySem.boot_len (pa_cons (pv 12) pa_nil)) pe_int (nomark _)))) (fun _ _ _ _ _ => (pv 12))) pa_nil)) pa_nil)))))))), rfl⟩
def rd_bare_divides (P : Program) (w : World) (K : Fg) : TS := (tRet (tNotV (tCB (rAny K) (tCons (tLc (iSeq K (tCall (sp_bare_sides K) [] E0 (tCons (tVar 0) (tCons (tVar 1) (tCons (tVar 2) tNil))))) (gName 5) tYes (tAndV (tOp (rInU K false) (tVar 3) (tVar 5)) (tOp (rInU K false) (tVar 4) (tVar 5))) [5]) tNil))))
theorem sc_bare_divides : FnScope ["many", "net", "lot", "one", "other", "side"] ["many", "net", "lot", "one", "other"] (defScope Hd.s_bare_divides) := ⟨rfl, rfl, rfl, by decide +kernel, rfl, by decide +kernel, by decide +kernel⟩
theorem tm_bare_divides (T : Hd.Tx K mg) (c_bare_sides : Cal P w K mg base 2 "bare_sides" ["many", "net", "lot"] (sp_bare_sides K)) : BodyOk P w K mg base ["many", "net", "lot", "one", "other", "side"] "bare_divides" Hd.s_bare_divides f 2 (fun t => t = rd_bare_divides P w K) :=
  fun cdv A outer s H E hr => ⟨_, (pss_one (ps_ret (pe_not (pe_callB (cr_any rfl) (by rfl) T.b_any (by decide +kernel) (pa_cons (pe_lc (own := [("side", 5)]) rfl sc_bare_divides.nd (pi_seq (pc c_bare_sides (hr.mono (by decide)) rfl (pa_cons (pv 0) (pa_cons (pv 1) (pa_cons (pv 2) pa_nil))))) (blkOk_by (by kernel_rfl)) (fun _ _ _ _ _ => (pg_name (i := 5) sc_bare_divides.nd rfl (by first | exact Or.inl rfl | exact Or.inr rfl))) (fun _ _ _ _ _ => pts_nil) (fun _ _ _ _ _ => (pe_and (pe_cmpR (op_inU (units65 hr)) (pv 3) (pv 5) (by rfl)) (pe_one (pe_cmpR (op_inU (units65 hr)) (pv 4) (pv 5) (by rfl)))))) pa_nil))))), rfl⟩
def rd_bare_way (P : Program) (w : World) (K : Fg) : TS := (tSeq (tAsg (tLst (tCons (tTup (tCons (tVar 2) tNil)) tNil)) (gName 4)) (tSeq (tAsg (tDisp [((tVar 2), (tC (.bl true)))]) (gName 5)) (tSeq (tWhile (tTest (tOp (rI0 fun i j => V.bl (decide (j < i))) (tCB (rLenQ K) (tCons (tVar 4) tNil)) (tC (.int 0)))) (tSeq (tAsg (tLst tNil) (gName 6)) (tSeq (tFor (iSeq K (tCB (rLstQ K) (tCons (tVar 4) tNil))) (gName 7) (tSeq (tIfS (tTest (tOp (rEqU K) (tOp (rIxU K) (tVar 7) (tUn (rU fun i => V.int (-i)) (tC (.int 1)))) (tVar 3))) (tRet (tVar 7)) tNext) (tFor (iSeq K (tCall (sp_bare_wired K) [] E0 (tCons (tVar 0) (tCons (tOp (rIxU K) (tVar 7) (tUn (rU fun i => V.int (-i)) (tC (.int 1)))) tNil)))) (gName 8) (tIfS (tAnd (tTest (tOp (rInU K true) (tVar 8) (tVar 1))) (tB (tDNotIn (tVar 8) (tVar 5)))) (tSeq (sDPut (tVar 5) (tVar 8) (tC (.bl true))) (tDrop (tBM K "list" rAppend (tVar 6) (tCons (tOp (rAddU K) (tVar 7) (tTup (tCons (tVar 8) tNil))) tNil)))) tNext)))) (tAsg (tVar 6) (gName 4))))) (tRet (tC .non)))))
theorem sc_bare_way : FnScope ["net", "lot", "one", "other", "ways", "seen", "longer", "way", "house"] ["net", "lot", "one", "other"] (defScope Hd.s_bare_way) := ⟨rfl, rfl, rfl, by decide +kernel, rfl, by decide +kernel, by decide +kernel⟩
theorem tm_bare_way (T : Hd.Tx K mg) (c_bare_wired : Cal P w K mg base 1 "bare_wired" ["net", "house"] (sp_bare_wired K)) : BodyOk P w K mg base ["net", "lot", "one", "other", "ways", "seen", "longer", "way", "house"] "bare_way" Hd.s_bare_way f 1 (fun t => t = rd_bare_way P w K) :=
  fun cdv A outer s H E hr => ⟨_, (pss_cons (ps_set (i := 4) sc_bare_way.nd rfl (Or.inl rfl) (pe_lst (pa_cons (pe_tup (pa_cons (pv 2) pa_nil)) pa_nil))) (pss_cons (ps_set (i := 5) sc_bare_way.nd rfl (Or.inl rfl) (pe_disp (pps_cons (pv 2) pe_bl pps_nil) rfl rfl (by simp) (by decide))) (pss_cons (ps_while PassesOwn.never (pt_cmpR op_gt (pe_callB call_lenQ (by rfl) T.b_len PySem.boot_len (pa_cons (pv 4) pa_nil)) pe_int (nomark _)) (pss_cons (ps_set (i := 6) sc_bare_way.nd rfl (Or.inl rfl) (pe_lst pa_nil)) (pss_cons (ps_for PassesOwn.never rfl (pi_seq (pe_callTy call_lstQ (by rfl) T.b_list (by decide +kernel) (pa_cons (pv 4) pa_nil))) (pg_name (i := 7) sc_bare_way.nd rfl (Or.inl rfl)) (pss_cons (ps_if (pt_cmpR (op_eqU hr.units) (pe_ix ix_U (pv 7) (pe_un un_neg pe_int) (fun _ _ => rfl)) (pv 3) (nomark _)) (pss_one (ps_ret (pv 7))) pss_nil) (pss_one (ps_for PassesOwn.never rfl (pi_seq (pc c_bare_wired (hr.mono (by decide)) rfl (pa_cons (pv 0) (pa_cons (pe_ix ix_U (pv 7) (pe_un un_neg pe_int) (fun _ _ => rfl)) pa_nil)))) (pg_name (i := 8) sc_bare_way.nd rfl (Or.inl rfl)) (pss_one (ps_if (PW.pt (pw_and (pt_cmpR (op_notInU (units65 hr)) (pv 8) (pv 1) (by rfl)) (pw_and1 (pt_cmp (pc_dnotin (units1 hr) (pv 8) (pv 5)))))) (pss_cons (ps_dput (units1 hr) (pv 5) (pv 8) pe_bl rfl) (pss_one (ps_expr (pe_bm PySem.F.plainAttrs_list PySem.F.slot_list_append PySem.F.type_list_append mt_append (pv 6) (pa_cons (pe_op op_addU (pv 7) (pe_tup (pa_cons (pv 8) pa_nil))) pa_nil))))) pss_nil)))))) (pss_one (ps_set (i := 4) sc_bare_way.nd rfl (Or.inl rfl) (pv 6)))))) (pss_one (ps_ret pe_non))))), rfl⟩
def rd_bare_between (P : Program) (w : World) (K : Fg) : TS := (tRet (tCall (sp_greatest_in K) [] E0 (tCons (tLc (iSeq K (tVar 0)) (gName 3) tYes (tCB (rTupQ K) (tCons (tLc (iSeq K (tVar 3)) (gName 4) (tAnd (tTest (tOp (rNeU K) (tVar 4) (tVar 1))) (tTest (tOp (rNeU K) (tVar 4) (tVar 2)))) (tVar 4) [4]) tNil)) [3]) tNil)))
theorem sc_bare_between : FnScope ["fears", "one", "other", "fear", "house"] ["fears", "one", "other"] (defScope Hd.s_bare_between) := ⟨rfl, rfl, rfl, by decide +kernel, rfl, by decide +kernel, by decide +kernel⟩
theorem tm_bare_between (T : Hd.Tx K mg) (c_greatest_in : Cal P w K mg base 2 "greatest_in" ["lots"] (sp_greatest_in K)) : BodyOk P w K mg base ["fears", "one", "other", "fear", "house"] "bare_between" Hd.s_bare_between f 2 (fun t => t = rd_bare_between P w K) :=
  fun cdv A outer s H E hr => ⟨_, (pss_one (ps_ret (pc c_greatest_in (hr.mono (by decide)) rfl (pa_cons (pe_lc (own := [("fear", 3)]) rfl sc_bare_between.nd (pi_seq (pv 0)) (blkOk_by (by kernel_rfl)) (fun _ _ _ _ _ => (pg_name (i := 3) sc_bare_between.nd rfl (by first | exact Or.inl rfl | exact Or.inr rfl))) (fun _ _ _ _ _ => pts_nil) (fun _ _ _ _ _ => (pe_callTy call_tupQ (by rfl) T.b_tuple (by decide +kernel) (pa_cons (pe_lc (own := [("house", 4)]) rfl sc_bare_between.nd (pi_seq (pv 3)) (blkOk_by (by kernel_rfl)) (fun _ _ _ _ _ => (pg_name (i := 4) sc_bare_between.nd rfl (by first | exact Or.inl rfl | exact Or.inr rfl))) (fun _ _ _ _ _ => (pts_one (PW.pt (pw_and (pt_cmpR (op_neU hr.units) (pv 4) (pv 1) (nomark _)) (pw_and1 (pt_cmpR (op_neU hr.units) (pv 4) (pv 2) (nomark _))))))) (fun _ _ _ _ _ => (pv 4))) pa_nil)))) pa_nil)))), rfl⟩
def rd_between_lots (P : Program) (w : World) (K : Fg) : TS := (tSeq (tDrop (tCall (sp_a_want K) [] E0 (tCons (tCall (sp_many_fits K) [] E0 (tCons (tVar 0) tNil)) (tCons (tC (.str "many")) tNil)))) (tSeq (tDrop (tCall (sp_a_want K) [] E0 (tCons (tCall (sp_fears_fit K) [] E0 (tCons (tVar 0) (tCons (tVar 1) tNil))) (tCons (tC (.str "fears")) tNil)))) (tSeq (tDrop (tCall (sp_a_want K) [] E0 (tCons (tCall (sp_house_fits K) [] E0 (tCons (tVar 0) (tCons (tVar 2) tNil))) (tCons (tC (.str "one")) tNil)))) (tSeq (tDrop (tCall (sp_a_want K) [] E0 (tCons (tCall (sp_two_fit K) [] E0 (tCons (tVar 0) (tCons (tVar 2) (tCons (tVar 3) tNil)))) (tCons (tC (.str "other")) tNil)))) (tRet (tCall (sp_bare_between K) [] E0 (tCons (tVar 1) (tCons (tVar 2) (tCons (tVar 3) tNil)))))))))
theorem sc_between_lots : FnScope ["many", "fears", "one", "other"] ["many", "fears", "one", "other"] (defScope Hd.s_between_lots) := ⟨rfl, rfl, rfl, by decide +kernel, rfl, by decide +kernel, by decide +kernel⟩
theorem tm_between_lots (T : Hd.Tx K mg) (c_bare_between : Cal P w K mg base 3 "bare_between" ["fears", "one", "other"] (sp_bare_between K)) (c_two_fit : Cal P w K mg base 4 "two_fit" ["many", "one", "other"] (sp_two_fit K)) (c_a_want : Cal P w K mg base 1 "a_want" ["good", "word"] (sp_a_want K)) (c_house_fits : Cal P w K mg base 3 "house_fits" ["many", "thing"] (sp_house_fits K)) (c_fears_fit : Cal P w K mg base 6 "fears_fit" ["many", "thing"] (sp_fears_fit K)) (c_many_fits : Cal P w K mg base 2 "many_fits" ["thing"] (sp_many_fits K)) : BodyOk P w K mg base ["many", "fears", "one", "other"] "between_lots" Hd.s_between_lots f 6 (fun t => t = rd_between_lots P w K) :=
  fun cdv A outer s H E hr => ⟨_, (pss_cons (ps_expr (pc c_a_want (hr.mono (by decide)) rfl (pa_cons (pc c_many_fits (hr.mono (by decide)) rfl (pa_cons (pv 0) pa_nil)) (pa_cons pe_str pa_nil)))) (pss_cons (ps_expr (pc c_a_want (hr.mono (by decide)) rfl (pa_cons (pc c_fears_fit (hr.mono (by decide)) rfl (pa_cons (pv 0) (pa_cons (pv 1) pa_nil))) (pa_cons pe_str pa_nil)))) (pss_cons (ps_expr (pc c_a_want (hr.mono (by decide)) rfl (pa_cons (pc c_house_fits (hr.mono (by decide)) rfl (pa_cons (pv 0) (pa_cons (pv 2) pa_nil))) (pa_cons pe_str pa_nil)))) (pss_cons (ps_expr (pc c_a_want (hr.mono (by decide)) rfl (pa_cons (pc c_two_fit (hr.mono (by decide)) rfl (pa_cons (pv 0) (pa_cons (pv 2) (pa_cons (pv 3) pa_nil)))) (pa_cons pe_str pa_nil)))) (pss_one (ps_ret (pc c_bare_between (hr.mono (by decide)) rfl (pa_cons (pv 1) (pa_cons (pv 2) (pa_cons (pv 3) pa_nil)))))))))), rfl⟩
def rd_ground_fits (P : Program) (w : World) (K : Fg) : TS := (tSeq (tIfS (tOr (tNot (tB (tCB (rIsi K) (tCons (tVar 0) (tCons (tC (.ty "tuple")) tNil))))) (tTest (tOp (rNeU K) (tCB (rLenQ K) (tCons (tVar 0) tNil)) (tC (.int 2))))) (tRet (tC (.bl false))) tNext) (tRet (tAndV (tCall (sp_sizes_fit K) [] E0 (tCons (tOp (rIxU K) (tVar 0) (tC (.int 0))) tNil)) (tCall (sp_fears_fit K) [] E0 (tCons (tCB (rLenQ K) (tCons (tOp (rIxU K) (tVar 0) (tC (.int 0))) tNil)) (tCons (tOp (rIxU K) (tVar 0) (tC (.int 1))) tNil))))))
theorem sc_ground_fits : FnScope ["thing"] ["thing"] (defScope Hd.s_ground_fits) := ⟨rfl, rfl, rfl, by decide +kernel, rfl, by decide +kernel, by decide +kernel⟩
theorem tm_ground_fits (T : Hd.Tx K mg) (c_fears_fit : Cal P w K mg base 6 "fears_fit" ["many", "thing"] (sp_fears_fit K)) (c_sizes_fit : Cal P w K mg base 3 "sizes_fit" ["thing"] (sp_sizes_fit K)) : BodyOk P w K mg base ["thing"] "ground_fits" Hd.s_ground_fits f 6 (fun t => t = rd_ground_fits P w K) :=
  fun cdv A outer s H E hr => ⟨_, (pss_cons (ps_if (PW.pt (pw_or (pt_not (pt_val (pe_callB call_isi (by rfl) T.b_isinstance (by decide +kernel) (pa_cons (pv 0) (pa_cons (pe_bltn (v := .ty "tuple") rfl (T.b_tuple) boot_tuple rfl) pa_nil))))) (pw_or1 (pt_cmpR (op_neU hr.units) (pe_callB call_lenQ (by rfl) T.b_len PySem.boot_len (pa_cons (pv 0) pa_nil)) pe_int (nomark _))))) (pss_one (ps_ret pe_bl)) pss_nil) (pss_one (ps_ret (pe_and (pc c_sizes_fit (hr.mono (by decide)) rfl (pa_cons (pe_ix ix_U (pv 0) pe_int (fun _ _ => rfl)) pa_nil)) (pe_one (pc c_fears_fit (hr.mono (by decide)) rfl (pa_cons (pe_callB call_lenQ (by rfl) T.b_len PySem.boot_len (pa_cons (pe_ix ix_U (pv 0) pe_int (fun _ _ => rfl)) pa_nil)) (pa_cons (pe_ix ix_U (pv 0) pe_int (fun _ _ => rfl)) pa_nil)))))))), rfl⟩
def rd_mesh_of (P : Program) (w : World) (K : Fg) : TS := (tSeq (tDrop (tCall (sp_a_want K) [] E0 (tCons (tCall (sp_many_fits K) [] E0 (tCons (tVar 0) tNil)) (tCons (tC (.str "many")) tNil)))) (tRet (tCB (rTupQ K) (tCons (tLc2 (iRng1 (tCons (tVar 0) tNil)) (gName 1) tYes (iRng2 (tCons (tOp (rAddU K) (tVar 1) (tC (.int 1))) (tCons (tVar 0) tNil))) (gName 2) tYes (tTup (tCons (tVar 1) (tCons (tVar 2) tNil))) [1, 2] [2]) tNil))))
theorem sc_mesh_of : FnScope ["many", "one", "other"] ["many"] (defScope Hd.s_mesh_of) := ⟨rfl, rfl, rfl, by decide +kernel, rfl, by decide +kernel, by decide +kernel⟩
theorem tm_mesh_of (T : Hd.Tx K mg) (c_many_fits : Cal P w K mg base 2 "many_fits" ["thing"] (sp_many_fits K)) (c_a_want : Cal P w K mg base 1 "a_want" ["good", "word"] (sp_a_want K)) : BodyOk P w K mg base ["many", "one", "other"] "mesh_of" Hd.s_mesh_of f 2 (fun t => t = rd_mesh_of P w K) :=
  fun cdv A outer s H E hr => ⟨_, (pss_cons (ps_expr (pc c_a_want (hr.mono (by decide)) rfl (pa_cons (pc c_many_fits (hr.mono (by decide)) rfl (pa_cons (pv 0) pa_nil)) (pa_cons pe_str pa_nil)))) (pss_one (ps_ret (pe_callTy call_tupQ (by rfl) T.b_tuple (by decide +kernel) (pa_cons (pe_lc2 (own := [("one", 1), ("other", 2)]) (vs1 := [2]) rfl sc_mesh_of.nd (pi_range1 rfl T.b_range (pa_cons (pv 0) pa_nil)) (blkOk_by (by kernel_rfl)) (by decide) (fun _ _ _ _ _ => (pg_name (i := 1) sc_mesh_of.nd rfl (by first | exact Or.inl rfl | exact Or.inr rfl))) (fun _ _ _ _ _ => pts_nil) (fun _ _ _ _ _ => (pi_range2 rfl T.b_range (pa_cons (pe_op op_addU (pv 1) pe_int) (pa_cons (pv 0) pa_nil)))) (fun _ _ _ _ _ => (pg_name (i := 2) sc_mesh_of.nd rfl (by first | exact Or.inl rfl | exact Or.inr rfl))) (fun _ _ _ _ _ => pts_nil) (fun _ _ _ _ _ => (pe_tup (pa_cons (pv 1) (pa_cons (pv 2) pa_nil))))) pa_nil))))), rfl⟩
def rd_is_way (P : Program) (w : World) (K : Fg) : TS := (tSeq (tDrop (tCall (sp_a_want K) [] E0 (tCons (tCall (sp_many_fits K) [] E0 (tCons (tVar 0) tNil)) (tCons (tC (.str "many")) tNil)))) (tSeq (tDrop (tCall (sp_a_want K) [] E0 (tCons (tCall (sp_net_fits K) [] E0 (tCons (tVar 0) (tCons (tVar 1) tNil))) (tCons (tC (.str "net")) tNil)))) (tSeq (tIfS (tNot (tB (tCB (rIsi K) (tCons (tVar 2) (tCons (tC (.ty "tuple")) tNil))))) (tRet (tC (.bl false))) tNext) (tSeq (tAsg (tC .non) (gName 3)) (tSeq (tAsg (tLst tNil) (gName 4)) (tSeq (tFor (iSeq K (tVar 2)) (gName 5) (tSeq (tIfS (tOr (tNot (tB (tCall (sp_house_fits K) [] E0 (tCons (tVar 0) (tCons (tVar 5) tNil))))) (tTest (tOp (rInU K false) (tVar 5) (tVar 4)))) (tRet (tC (.bl false))) tNext) (tSeq (tIfS (tAnd (tTest (tOp (rIsNotU) (tVar 3) (tC .non))) (tTest (tOp (rInU K true) (tCall (sp_wire_between K) [] E0 (tCons (tVar 3) (tCons (tVar 5) tNil))) (tVar 1)))) (tRet (tC (.bl false))) tNext) (tSeq (tDrop (tBM K "list" rAppend (tVar 4) (tCons (tVar 5) tNil))) (tAsg (tVar 5) (gName 3)))))) (tRet (tC (.bl true)))))))))
theorem sc_is_way : FnScope ["many", "net", "thing", "last", "seen", "house"] ["many", "net", "thing"] (defScope Hd.s_is_way) := ⟨rfl, rfl, rfl, by decide +kernel, rfl, by decide +kernel, by decide +kernel⟩
theorem tm_is_way (T : Hd.Tx K mg) (c_wire_between : Cal P w K mg base 1 "wire_between" ["one", "other"] (sp_wire_between K)) (c_house_fits : Cal P w K mg base 3 "house_fits" ["many", "thing"] (sp_house_fits K)) (c_net_fits : Cal P w K mg base 5 "net_fits" ["many", "thing"] (sp_net_fits K)) (c_a_want : Cal P w K mg base 1 "a_want" ["good", "word"] (sp_a_want K)) (c_many_fits : Cal P w K mg base 2 "many_fits" ["thing"] (sp_many_fits K)) : BodyOk P w K mg base ["many", "net", "thing", "last", "seen", "house"] "is_way" Hd.s_is_way f 5 (fun t => t = rd_is_way P w K) :=
  fun cdv A outer s H E hr => ⟨_, (pss_cons (ps_expr (pc c_a_want (hr.mono (by decide)) rfl (pa_cons (pc c_many_fits (hr.mono (by decide)) rfl (pa_cons (pv 0) pa_nil)) (pa_cons pe_str pa_nil)))) (pss_cons (ps_expr (pc c_a_want (hr.mono (by decide)) rfl (pa_cons (pc c_net_fits (hr.mono (by decide)) rfl (pa_cons (pv 0) (pa_cons (pv 1) pa_nil))) (pa_cons pe_str pa_nil)))) (pss_cons (ps_if (pt_not (pt_val (pe_callB call_isi (by rfl) T.b_isinstance (by decide +kernel) (pa_cons (pv 2) (pa_cons (pe_bltn (v := .ty "tuple") rfl (T.b_tuple) boot_tuple rfl) pa_nil))))) (pss_one (ps_ret pe_bl)) pss_nil) (pss_cons (ps_set (i := 3) sc_is_way.nd rfl (Or.inl rfl) pe_non) (pss_cons (ps_set (i := 4) sc_is_way.nd rfl (Or.inl rfl) (pe_lst pa_nil)) (pss_cons (ps_for PassesOwn.never rfl (pi_seq (pv 2)) (pg_name (i := 5) sc_is_way.nd rfl (Or.inl rfl)) (pss_cons (ps_if (PW.pt (pw_or (pt_not (pt_val (pc c_house_fits (hr.mono (by decide)) rfl (pa_cons (pv 0) (pa_cons (pv 5) pa_nil))))) (pw_or1 (pt_cmpR (op_inU (units65 hr)) (pv 5) (pv 4) (by rfl))))) (pss_one (ps_ret pe_bl)) pss_nil) (pss_cons (ps_if (PW.pt (pw_and (pt_cmpR op_isNotU (pv 3) pe_non (nomark _)) (pw_and1 (pt_cmpR (op_notInU (units65 hr)) (pc c_wire_between (hr.mono (by decide)) rfl (pa_cons (pv 3) (pa_cons (pv 5) pa_nil))) (pv 1) (by rfl))))) (pss_one (ps_ret pe_bl)) pss_nil) (pss_cons (ps_expr (pe_bm PySem.F.plainAttrs_list PySem.F.slot_list_append PySem.F.type_list_append mt_append (pv 4) (pa_cons (pv 5) pa_nil))) (pss_one (ps_set (i := 3) sc_is_way.nd rfl (Or.inl rfl) (pv 5))))))) (pss_one (ps_ret pe_bl)))))))), rfl⟩
def rd_wired_to (P : Program) (w : World) (K : Fg) : TS := (tSeq (tDrop (tCall (sp_a_want K) [] E0 (tCons (tCall (sp_many_fits K) [] E0 (tCons (tVar 0) tNil)) (tCons (tC (.str "many")) tNil)))) (tSeq (tDrop (tCall (sp_a_want K) [] E0 (tCons (tCall (sp_net_fits K) [] E0 (tCons (tVar 0) (tCons (tVar 1) tNil))) (tCons (tC (.str "net")) tNil)))) (tSeq (tDrop (tCall (sp_a_want K) [] E0 (tCons (tCall (sp_house_fits K) [] E0 (tCons (tVar 0) (tCons (tVar 2) tNil))) (tCons (tC (.str "house")) tNil)))) (tRet (tCall (sp_bare_wired K) [] E0 (tCons (tVar 1) (tCons (tVar 2) tNil)))))))
theorem sc_wired_to : FnScope ["many", "net", "house"] ["many", "net", "house"] (defScope Hd.s_wired_to) := ⟨rfl, rfl, rfl, by decide +kernel, rfl, by decide +kernel, by decide +kernel⟩
theorem tm_wired_to (T : Hd.Tx K mg) (c_bare_wired : Cal P w K mg base 1 "bare_wired" ["net", "house"] (sp_bare_wired K)) (c_house_fits : Cal P w K mg base 3 "house_fits" ["many", "thing"] (sp_house_fits K)) (c_a_want : Cal P w K mg base 1 "a_want" ["good", "word"] (sp_a_want K)) (c_net_fits : Cal P w K mg base 5 "net_fits" ["many", "thing"] (sp_net_fits K)) (c_many_fits : Cal P w K mg base 2 "many_fits" ["thing"] (sp_many_fits K)) : BodyOk P w K mg base ["many", "net", "house"] "wired_to" Hd.s_wired_to f 5 (fun t => t = rd_wired_to P w K) :=
  fun cdv A outer s H E hr => ⟨_, (pss_cons (ps_expr (pc c_a_want (hr.mono (by decide)) rfl (pa_cons (pc c_many_fits (hr.mono (by decide)) rfl (pa_cons (pv 0) pa_nil)) (pa_cons pe_str pa_nil)))) (pss_cons (ps_expr (pc c_a_want (hr.mono (by decide)) rfl (pa_cons (pc c_net_fits (hr.mono (by decide)) rfl (pa_cons (pv 0) (pa_cons (pv 1) pa_nil))) (pa_cons pe_str pa_nil)))) (pss_cons (ps_expr (pc c_a_want (hr.mono (by decide)) rfl (pa_cons (pc c_house_fits (hr.mono (by decide)) rfl (pa_cons (pv 0) (pa_cons (pv 2) pa_nil))) (pa_cons pe_str pa_nil)))) (pss_one (ps_ret (pc c_bare_wired (hr.mono (by decide)) rfl (pa_cons (pv 1) (pa_cons (pv 2) pa_nil)))))))), rfl⟩
def rd_feared_lots (P : Program) (w : World) (K : Fg) : TS := (tSeq (tDrop (tCall (sp_a_want K) [] E0 (tCons (tCall (sp_many_fits K) [] E0 (tCons (tVar 0) tNil)) (tCons (tC (.str "many")) tNil)))) (tSeq (tDrop (tCall (sp_a_want K) [] E0 (tCons (tCall (sp_fears_fit K) [] E0 (tCons (tVar 0) (tCons (tVar 1) tNil))) (tCons (tC (.str "fears")) tNil)))) (tRet (tCB (rTupQ K) (tCons (tLc (iSeq K (tCall (sp_lots_in K) [] E0 (tCons (tVar 0) tNil))) (gName 2) (tB (tCall (sp_feared_in K) [] E0 (tCons (tVar 1) (tCons (tVar 2) tNil)))) (tVar 2) [2]) tNil)))))
theorem sc_feared_lots : FnScope ["many", "fears", "lot"] ["many", "fears"] (defScope Hd.s_feared_lots) := ⟨rfl, rfl, rfl, by decide +kernel, rfl, by decide +kernel, by decide +kernel⟩
theorem tm_feared_lots (T : Hd.Tx K mg) (c_lots_in : Cal P w K mg base 1 "lots_in" ["many"] (sp_lots_in K)) (c_feared_in : Cal P w K mg base 2 "feared_in" ["fears", "lot"] (sp_feared_in K)) (c_fears_fit : Cal P w K mg base 6 "fears_fit" ["many", "thing"] (sp_fears_fit K)) (c_a_want : Cal P w K mg base 1 "a_want" ["good", "word"] (sp_a_want K)) (c_many_fits : Cal P w K mg base 2 "many_fits" ["thing"] (sp_many_fits K)) : BodyOk P w K mg base ["many", "fears", "lot"] "feared_lots" Hd.s_feared_lots f 6 (fun t => t = rd_feared_lots P w K) :=
  fun cdv A outer s H E hr => ⟨_, (pss_cons (ps_expr (pc c_a_want (hr.mono (by decide)) rfl (pa_cons (pc c_many_fits (hr.mono (by decide)) rfl (pa_cons (pv 0) pa_nil)) (pa_cons pe_str pa_nil)))) (pss_cons (ps_expr (pc c_a_want (hr.mono (by decide)) rfl (pa_cons (pc c_fears_fit (hr.mono (by decide)) rfl (pa_cons (pv 0) (pa_cons (pv 1) pa_nil))) (pa_cons pe_str pa_nil)))) (pss_one (ps_ret (pe_callTy call_tupQ (by rfl) T.b_tuple (by decide +kernel) (pa_cons (pe_lc (own := [("lot", 2)]) rfl sc_feared_lots.nd (pi_seq (pc c_lots_in (hr.mono (by decide)) rfl (pa_cons (pv 0) pa_nil))) (blkOk_by (by kernel_rfl)) (fun _ _ _ _ _ => (pg_name (i := 2) sc_feared_lots.nd rfl (by first | exact Or.inl rfl | exact Or.inr rfl))) (fun _ _ _ _ _ => (pts_one (pt_val (pc c_feared_in (hr.mono (by decide)) rfl (pa_cons (pv 1) (pa_cons (pv 2) pa_nil)))))) (fun _ _ _ _ _ => (pv 2))) pa_nil)))))), rfl⟩
def rd_sides_of (P : Program) (w : World) (K : Fg) : TS := (tSeq (tDrop (tCall (sp_a_want K) [] E0 (tCons (tCall (sp_many_fits K) [] E0 (tCons (tVar 0) tNil)) (tCons (tC (.str "many")) tNil)))) (tSeq (tDrop (tCall (sp_a_want K) [] E0 (tCons (tCall (sp_net_fits K) [] E0 (tCons (tVar 0) (tCons (tVar 1) tNil))) (tCons (tC (.str "net")) tNil)))) (tSeq (tDrop (tCall (sp_a_want K) [] E0 (tCons (tCall (sp_lot_fits K) [] E0 (tCons (tVar 0) (tCons (tVar 2) tNil))) (tCons (tC (.str "lot")) tNil)))) (tRet (tCall (sp_bare_sides K) [] E0 (tCons (tVar 0) (tCons (tVar 1) (tCons (tVar 2) tNil))))))))
theorem sc_sides_of : FnScope ["many", "net", "lot"] ["many", "net", "lot"] (defScope Hd.s_sides_of) := ⟨rfl, rfl, rfl, by decide +kernel, rfl, by decide +kernel, by decide +kernel⟩
theorem tm_sides_of (T : Hd.Tx K mg) (c_bare_sides : Cal P w K mg base 2 "bare_sides" ["many", "net", "lot"] (sp_bare_sides K)) (c_lot_fits : Cal P w K mg base 4 "lot_fits" ["many", "thing"] (sp_lot_fits K)) (c_a_want : Cal P w K mg base 1 "a_want" ["good", "word"] (sp_a_want K)) (c_net_fits : Cal P w K mg base 5 "net_fits" ["many", "thing"] (sp_net_fits K)) (c_many_fits : Cal P w K mg base 2 "many_fits" ["thing"] (sp_many_fits K)) : BodyOk P w K mg base ["many", "net", "lot"] "sides_of" Hd.s_sides_of f 5 (fun t => t = rd_sides_of P w K) :=
  fun cdv A outer s H E hr => ⟨_, (pss_cons (ps_expr (pc c_a_want (hr.mono (by decide)) rfl (pa_cons (pc c_many_fits (hr.mono (by decide)) rfl (pa_cons (pv 0) pa_nil)) (pa_cons pe_str pa_nil)))) (pss_cons (ps_expr (pc c_a_want (hr.mono (by decide)) rfl (pa_cons (pc c_net_fits (hr.mono (by decide)) rfl (pa_cons (pv 0) (pa_cons (pv 1) pa_nil))) (pa_cons pe_str pa_nil)))) (pss_cons (ps_expr (pc c_a_want (hr.mono (by decide)) rfl (pa_cons (pc c_lot_fits (hr.mono (by decide)) rfl (pa_cons (pv 0) (pa_cons (pv 2) pa_nil))) (pa_cons pe_str pa_nil)))) (pss_one (ps_ret (pc c_bare_sides (hr.mono (by decide)) rfl (pa_cons (pv 0) (pa_cons (pv 1) (pa_cons (pv 2) pa_nil))))))))), rfl⟩
def rd_divides (P : Program) (w : World) (K : Fg) : TS := (tSeq (tDrop (tCall (sp_a_want K) [] E0 (tCons (tCall (sp_many_fits K) [] E0 (tCons (tVar 0) tNil)) (tCons (tC (.str "many")) tNil)))) (tSeq (tDrop (tCall (sp_a_want K) [] E0 (tCons (tCall (sp_net_fits K) [] E0 (tCons (tVar 0) (tCons (tVar 1) tNil))) (tCons (tC (.str "net")) tNil)))) (tSeq (tDrop (tCall (sp_a_want K) [] E0 (tCons (tCall (sp_lot_fits K) [] E0 (tCons (tVar 0) (tCons (tVar 2) tNil))) (tCons (tC (.str "lot")) tNil)))) (tSeq (tDrop (tCall (sp_a_want K) [] E0 (tCons (tAndV (tCall (sp_house_fits K) [] E0 (tCons (tVar 0) (tCons (tVar 3) tNil))) (tOp (rInU K true) (tVar 3) (tVar 2))) (tCons (tC (.str "one")) tNil)))) (tSeq (tDrop (tCall (sp_a_want K) [] E0 (tCons (tAndV (tCall (sp_two_fit K) [] E0 (tCons (tVar 0) (tCons (tVar 3) (tCons (tVar 4) tNil)))) (tOp (rInU K true) (tVar 4) (tVar 2))) (tCons (tC (.str "other")) tNil)))) (tRet (tCall (sp_bare_divides K) [] E0 (tCons (tVar 0) (tCons (tVar 1) (tCons (tVar 2) (tCons (tVar 3) (tCons (tVar 4) tNil))))))))))))
theorem sc_divides : FnScope ["many", "net", "lot", "one", "other"] ["many", "net", "lot", "one", "other"] (defScope Hd.s_divides) := ⟨rfl, rfl, rfl, by decide +kernel, rfl, by decide +kernel, by decide +kernel⟩
theorem tm_divides (T : Hd.Tx K mg) (c_bare_divides : Cal P w K mg base 3 "bare_divides" ["many", "net", "lot", "one", "other"] (sp_bare_divides K)) (c_two_fit : Cal P w K mg base 4 "two_fit" ["many", "one", "other"] (sp_two_fit K)) (c_a_want : Cal P w K mg base 1 "a_want" ["good", "word"] (sp_a_want K)) (c_house_fits : Cal P w K mg base 3 "house_fits" ["many", "thing"] (sp_house_fits K)) (c_lot_fits : Cal P w K mg base 4 "lot_fits" ["many", "thing"] (sp_lot_fits K)) (c_net_fits : Cal P w K mg base 5 "net_fits" ["many", "thing"] (sp_net_fits K)) (c_many_fits : Cal P w K mg base 2 "many_fits" ["thing"] (sp_many_fits K)) : BodyOk P w K mg base ["many", "net", "lot", "one", "other"] "divides" Hd.s_divides f 5 (fun t => t = rd_divides P w K) :=
  fun cdv A outer s H E hr => ⟨_, (pss_cons (ps_expr (pc c_a_want (hr.mono (by decide)) rfl (pa_cons (pc c_many_fits (hr.mono (by decide)) rfl (pa_cons (pv 0) pa_nil)) (pa_cons pe_str pa_nil)))) (pss_cons (ps_expr (pc c_a_want (hr.mono (by decide)) rfl (pa_cons (pc c_net_fits (hr.mono (by decide)) rfl (pa_cons (pv 0) (pa_cons (pv 1) pa_nil))) (pa_cons pe_str pa_nil)))) (pss_cons (ps_expr (pc c_a_want (hr.mono (by decide)) rfl (pa_cons (pc c_lot_fits (hr.mono (by decide)) rfl (pa_cons (pv 0) (pa_cons (pv 2) pa_nil))) (pa_cons pe_str pa_nil)))) (pss_cons (ps_expr (pc c_a_want (hr.mono (by decide)) rfl (pa_cons (pe_and (pc c_house_fits (hr.mono (by decide)) rfl (pa_cons (pv 0) (pa_cons (pv 3) pa_nil))) (pe_one (pe_cmpR (op_notInU (units65 hr)) (pv 3) (pv 2) (by rfl)))) (pa_cons pe_str pa_nil)))) (pss_cons (ps_expr (pc c_a_want (hr.mono (by decide)) rfl (pa_cons (pe_and (pc c_two_fit (hr.mono (by decide)) rfl (pa_cons (pv 0) (pa_cons (pv 3) (pa_cons (pv 4) pa_nil)))) (pe_one (pe_cmpR (op_notInU (units65 hr)) (pv 4) (pv 2) (by rfl)))) (pa_cons pe_str pa_nil)))) (pss_one (ps_ret (pc c_bare_divides (hr.mono (by decide)) rfl (pa_cons (pv 0) (pa_cons (pv 1) (pa_cons (pv 2) (pa_cons (pv 3) (pa_cons (pv 4) pa_nil))))))))))))), rfl⟩
def rd_dividing_lots (P : Program) (w : World) (K : Fg) : TS := (tSeq (tDrop (tCall (sp_a_want K) [] E0 (tCons (tCall (sp_many_fits K) [] E0 (tCons (tVar 0) tNil)) (tCons (tC (.str "many")) tNil)))) (tSeq (tDrop (tCall (sp_a_want K) [] E0 (tCons (tCall (sp_net_fits K) [] E0 (tCons (tVar 0) (tCons (tVar 1) tNil))) (tCons (tC (.str "net")) tNil)))) (tSeq (tDrop (tCall (sp_a_want K) [] E0 (tCons (tCall (sp_fears_fit K) [] E0 (tCons (tVar 0) (tCons (tVar 2) tNil))) (tCons (tC (.str "fears")) tNil)))) (tRet (tCB (rTupQ K) (tCons (tLc (iSeq K (tCall (sp_feared_lots K) [] E0 (tCons (tVar 0) (tCons (tVar 2) tNil)))) (gName 3) (tTest (tOp (rI0 fun i j => V.bl (decide (j < i))) (tCB (rLenQ K) (tCons (tCall (sp_bare_sides K) [] E0 (tCons (tVar 0) (tCons (tVar 1) (tCons (tVar 3) tNil)))) tNil)) (tC (.int 1)))) (tVar 3) [3]) tNil))))))
theorem sc_dividing_lots : FnScope ["many", "net", "fears", "lot"] ["many", "net", "fears"] (defScope Hd.s_dividing_lots) := ⟨rfl, rfl, rfl, by decide +kernel, rfl, by decide +kernel, by decide +kernel⟩
theorem tm_dividing_lots (T : Hd.Tx K mg) (c_feared_lots : Cal P w K mg base 7 "feared_lots" ["many", "fears"] (sp_feared_lots K)) (c_bare_sides : Cal P w K mg base 2 "bare_sides" ["many", "net", "lot"] (sp_bare_sides K)) (c_fears_fit : Cal P w K mg base 6 "fears_fit" ["many", "thing"] (sp_fears_fit K)) (c_a_want : Cal P w K mg base 1 "a_want" ["good", "word"] (sp_a_want K)) (c_net_fits : Cal P w K mg base 5 "net_fits" ["many", "thing"] (sp_net_fits K)) (c_many_fits : Cal P w K mg base 2 "many_fits" ["thing"] (sp_many_fits K)) : BodyOk P w K mg base ["many", "net", "fears", "lot"] "dividing_lots" Hd.s_dividing_lots f 7 (fun t => t = rd_dividing_lots P w K) :=
  fun cdv A outer s H E hr => ⟨_, (pss_cons (ps_expr (pc c_a_want (hr.mono (by decide)) rfl (pa_cons (pc c_many_fits (hr.mono (by decide)) rfl (pa_cons (pv 0) pa_nil)) (pa_cons pe_str pa_nil)))) (pss_cons (ps_expr (pc c_a_want (hr.mono (by decide)) rfl (pa_cons (pc c_net_fits (hr.mono (by decide)) rfl (pa_cons (pv 0) (pa_cons (pv 1) pa_nil))) (pa_cons pe_str pa_nil)))) (pss_cons (ps_expr (pc c_a_want (hr.mono (by decide)) rfl (pa_cons (pc c_fears_fit (hr.mono (by decide)) rfl (pa_cons (pv 0) (pa_cons (pv 2) pa_nil))) (pa_cons pe_str pa_nil)))) (pss_one (ps_ret (pe_callTy call_tupQ (by rfl) T.b_tuple (by decide +kernel) (pa_cons (pe_lc (own := [("lot", 3)]) rfl sc_dividing_lots.nd (pi_seq (pc c_feared_lots (hr.mono (by decide)) rfl (pa_cons (pv 0) (pa_cons (pv 2) pa_nil)))) (blkOk_by (by kernel_rfl)) (fun _ _ _ _ _ => (pg_name (i := 3) sc_dividing_lots.nd rfl (by first | exact Or.inl rfl | exact Or.inr rfl))) (fun _ _ _ _ _ => (pts_one (pt_cmpR op_gt (pe_callB call_lenQ (by rfl) T.b_len PySem.boot_len (pa_cons (pc c_bare_sides (hr.mono (by decide)) rfl (pa_cons (pv 0) (pa_cons (pv 1) (pa_cons (pv 3) pa_nil)))) pa_nil)) pe_int (nomark _)))) (fun _ _ _ _ _ => (pv 3))) pa_nil))))))), rfl⟩
def rd_is_sturdy (P : Program) (w : World) (K : Fg) : TS := (tRet (tOp (rEqU K) (tCB (rLenQ K) (tCons (tCall (sp_dividing_lots K) [] E0 (tCons (tVar 0) (tCons (tVar 1) (tCons (tVar 2) tNil)))) tNil)) (tC (.int 0))))
theorem sc_is_sturdy : FnScope ["many", "net", "fears"] ["many", "net", "fears"] (defScope Hd.s_is_sturdy) := ⟨rfl, rfl, rfl, by decide +kernel, rfl, by decide +kernel, by decide +kernel⟩
theorem tm_is_sturdy (T : Hd.Tx K mg) (c_dividing_lots : Cal P w K mg base 8 "dividing_lots" ["many", "net", "fears"] (sp_dividing_lots K)) : BodyOk P w K mg base ["many", "net", "fears"] "is_sturdy" Hd.s_is_sturdy f 8 (fun t => t = rd_is_sturdy P w K) :=
  fun cdv A outer s H E hr => ⟨_, (pss_one (ps_ret (pe_cmpR (op_eqU hr.units) (pe_callB call_lenQ (by rfl) T.b_len PySem.boot_len (pa_cons (pc c_dividing_lots (hr.mono (by decide)) rfl (pa_cons (pv 0) (pa_cons (pv 1) (pa_cons (pv 2) pa_nil)))) pa_nil)) pe_int (nomark _)))), rfl⟩
def rd_needed_wires (P : Program) (w : World) (K : Fg) : TS := (tSeq (tDrop (tCall (sp_a_want K) [] E0 (tCons (tCall (sp_is_sturdy K) [] E0 (tCons (tVar 0) (tCons (tVar 1) (tCons (tVar 2) tNil)))) (tCons (tC (.str "fears")) tNil)))) (tSeq (tAsg (tCall (sp_feared_lots K) [] E0 (tCons (tVar 0) (tCons (tVar 2) tNil))) (gName 3)) (tSeq (tAsg (tLst tNil) (gName 4)) (tSeq (tFor (iSeq K (tVar 1)) (gName 5) (tSeq (tAsg (tCB (rTupQ K) (tCons (tLc (iSeq K (tVar 1)) (gName 7) (tTest (tOp (rNeU K) (tVar 7) (tVar 5))) (tVar 7) [7]) tNil)) (gName 6)) (tIfS (tB (tCB (rAny K) (tCons (tLc (iSeq K (tVar 3)) (gName 8) tYes (tOp (rI0 fun i j => V.bl (decide (j < i))) (tCB (rLenQ K) (tCons (tCall (sp_bare_sides K) [] E0 (tCons (tVar 0) (tCons (tVar 6) (tCons (tVar 8) tNil)))) tNil)) (tC (.int 1))) [8]) tNil))) (tDrop (tBM K "list" rAppend (tVar 4) (tCons (tVar 5) tNil))) tNext))) (tRet (tCB (rTupQ K) (tCons (tVar 4) tNil)))))))
theorem sc_needed_wires : FnScope ["many", "net", "fears", "lots", "needed", "wire", "rest", "other", "lot"] ["many", "net", "fears"] (defScope Hd.s_needed_wires) := ⟨rfl, rfl, rfl, by decide +kernel, rfl, by decide +kernel, by decide +kernel⟩
theorem tm_needed_wires (T : Hd.Tx K mg) (c_bare_sides : Cal P w K mg base 2 "bare_sides" ["many", "net", "lot"] (sp_bare_sides K)) (c_feared_lots : Cal P w K mg base 7 "feared_lots" ["many", "fears"] (sp_feared_lots K)) (c_is_sturdy : Cal P w K mg base 9 "is_sturdy" ["many", "net", "fears"] (sp_is_sturdy K)) (c_a_want : Cal P w K mg base 1 "a_want" ["good", "word"] (sp_a_want K)) : BodyOk P w K mg base ["many", "net", "fears", "lots", "needed", "wire", "rest", "other", "lot"] "needed_wires" Hd.s_needed_wires f 9 (fun t => t = rd_needed_wires P w K) :=
  fun cdv A outer s H E hr => ⟨_, (pss_cons (ps_expr (pc c_a_want (hr.mono (by decide)) rfl (pa_cons (pc c_is_sturdy (hr.mono (by decide)) rfl (pa_cons (pv 0) (pa_cons (pv 1) (pa_cons (pv 2) pa_nil)))) (pa_cons pe_str pa_nil)))) (pss_cons (ps_set (i := 3) sc_needed_wires.nd rfl (Or.inl rfl) (pc c_feared_lots (hr.mono (by decide)) rfl (pa_cons (pv 0) (pa_cons (pv 2) pa_nil)))) (pss_cons (ps_set (i := 4) sc_needed_wires.nd rfl (Or.inl rfl) (pe_lst pa_nil)) (pss_cons (ps_for PassesOwn.never rfl (pi_seq (pv 1)) (pg_name (i := 5) sc_needed_wires.nd rfl (Or.inr rfl)) (pss_cons (ps_set (i := 6) sc_needed_wires.nd rfl (Or.inr rfl) (pe_callTy call_tupQ (by rfl) T.b_tuple (by decide +kernel) (pa_cons (pe_lc (own := [("other", 7)]) rfl sc_needed_wires.nd (pi_seq (pv 1)) (blkOk_by (by kernel_rfl)) (fun _ _ _ _ _ => (pg_name (i := 7) sc_needed_wires.nd rfl (by first | exact Or.inl rfl | exact Or.inr rfl))) (fun _ _ _ _ _ => (pts_one (pt_cmpR (op_neU hr.units) (pv 7) (pv 5) (nomark _)))) (fun _ _ _ _ _ => (pv 7))) pa_nil))) (pss_one (ps_if (pt_val (pe_callB (cr_any rfl) (by rfl) T.b_any (by decide +kernel) (pa_cons (pe_lc (own := [("lot", 8)]) rfl sc_needed_wires.nd (pi_seq (pv 3)) (blkOk_by (by kernel_rfl)) (fun _ _ _ _ _ => (pg_name (i := 8) sc_needed_wires.nd rfl (by first | exact Or.inl rfl | exact Or.inr rfl))) (fun _ _ _ _ _ => pts_nil) (fun _ _ _ _ _ => (pe_cmpR op_gt (pe_callB call_lenQ (by rfl) T.b_len PySem.boot_len (pa_cons (pc c_bare_sides (hr.mono (by decide)) rfl (pa_cons (pv 0) (pa_cons (pv 6) (pa_cons (pv 8) pa_nil)))) pa_nil)) pe_int (nomark _)))) pa_nil))) (pss_one (ps_expr (pe_bm PySem.F.plainAttrs_list PySem.F.slot_list_append PySem.F.type_list_append mt_append (pv 4) (pa_cons (pv 5) pa_nil)))) pss_nil)))) (pss_one (ps_ret (pe_callTy call_tupQ (by rfl) T.b_tuple (by decide +kernel) (pa_cons (pv 4) pa_nil)))))))), rfl⟩
def rd_way_past (P : Program) (w : World) (K : Fg) : TS := (tSeq (tDrop (tCall (sp_a_want K) [] E0 (tCons (tCall (sp_many_fits K) [] E0 (tCons (tVar 0) tNil)) (tCons (tC (.str "many")) tNil)))) (tSeq (tDrop (tCall (sp_a_want K) [] E0 (tCons (tCall (sp_net_fits K) [] E0 (tCons (tVar 0) (tCons (tVar 1) tNil))) (tCons (tC (.str "net")) tNil)))) (tSeq (tDrop (tCall (sp_a_want K) [] E0 (tCons (tCall (sp_lot_fits K) [] E0 (tCons (tVar 0) (tCons (tVar 2) tNil))) (tCons (tC (.str "lot")) tNil)))) (tSeq (tDrop (tCall (sp_a_want K) [] E0 (tCons (tAndV (tCall (sp_house_fits K) [] E0 (tCons (tVar 0) (tCons (tVar 3) tNil))) (tOp (rInU K true) (tVar 3) (tVar 2))) (tCons (tC (.str "one")) tNil)))) (tSeq (tDrop (tCall (sp_a_want K) [] E0 (tCons (tAndV (tCall (sp_two_fit K) [] E0 (tCons (tVar 0) (tCons (tVar 3) (tCons (tVar 4) tNil)))) (tOp (rInU K true) (tVar 4) (tVar 2))) (tCons (tC (.str "other")) tNil)))) (tRet (tCall (sp_bare_way K) [] E0 (tCons (tVar 1) (tCons (tVar 2) (tCons (tVar 3) (tCons (tVar 4) tNil)))))))))))
theorem sc_way_past : FnScope ["many", "net", "lot", "one", "other"] ["many", "net", "lot", "one", "other"] (defScope Hd.s_way_past) := ⟨rfl, rfl, rfl, by decide +kernel, rfl, by decide +kernel, by decide +kernel⟩
theorem tm_way_past (T : Hd.Tx K mg) (c_bare_way : Cal P w K mg base 2 "bare_way" ["net", "lot", "one", "other"] (sp_bare_way K)) (c_two_fit : Cal P w K mg base 4 "two_fit" ["many", "one", "other"] (sp_two_fit K)) (c_a_want : Cal P w K mg base 1 "a_want" ["good", "word"] (sp_a_want K)) (c_house_fits : Cal P w K mg base 3 "house_fits" ["many", "thing"] (sp_house_fits K)) (c_lot_fits : Cal P w K mg base 4 "lot_fits" ["many", "thing"] (sp_lot_fits K)) (c_net_fits : Cal P w K mg base 5 "net_fits" ["many", "thing"] (sp_net_fits K)) (c_many_fits : Cal P w K mg base 2 "many_fits" ["thing"] (sp_many_fits K)) : BodyOk P w K mg base ["many", "net", "lot", "one", "other"] "way_past" Hd.s_way_past f 5 (fun t => t = rd_way_past P w K) :=
  fun cdv A outer s H E hr => ⟨_, (pss_cons (ps_expr (pc c_a_want (hr.mono (by decide)) rfl (pa_cons (pc c_many_fits (hr.mono (by decide)) rfl (pa_cons (pv 0) pa_nil)) (pa_cons pe_str pa_nil)))) (pss_cons (ps_expr (pc c_a_want (hr.mono (by decide)) rfl (pa_cons (pc c_net_fits (hr.mono (by decide)) rfl (pa_cons (pv 0) (pa_cons (pv 1) pa_nil))) (pa_cons pe_str pa_nil)))) (pss_cons (ps_expr (pc c_a_want (hr.mono (by decide)) rfl (pa_cons (pc c_lot_fits (hr.mono (by decide)) rfl (pa_cons (pv 0) (pa_cons (pv 2) pa_nil))) (pa_cons pe_str pa_nil)))) (pss_cons (ps_expr (pc c_a_want (hr.mono (by decide)) rfl (pa_cons (pe_and (pc c_house_fits (hr.mono (by decide)) rfl (pa_cons (pv 0) (pa_cons (pv 3) pa_nil))) (pe_one (pe_cmpR (op_notInU (units65 hr)) (pv 3) (pv 2) (by rfl)))) (pa_cons pe_str pa_nil)))) (pss_cons (ps_expr (pc c_a_want (hr.mono (by decide)) rfl (pa_cons (pe_and (pc c_two_fit (hr.mono (by decide)) rfl (pa_cons (pv 0) (pa_cons (pv 3) (pa_cons (pv 4) pa_nil)))) (pe_one (pe_cmpR (op_notInU (units65 hr)) (pv 4) (pv 2) (by rfl)))) (pa_cons pe_str pa_nil)))) (pss_one (ps_ret (pc c_bare_way (hr.mono (by decide)) rfl (pa_cons (pv 1) (pa_cons (pv 2) (pa_cons (pv 3) (pa_cons (pv 4) pa_nil)))))))))))), rfl⟩
def rd_pairs_fit (P : Program) (w : World) (K : Fg) : TS := (tSeq (tFor (iSeq K (tVar 1)) (gName 2) (tSeq (tIfS (tOr (tNot (tB (tCB (rIsi K) (tCons (tVar 2) (tCons (tC (.ty "tuple")) tNil))))) (tTest (tOp (rNeU K) (tCB (rLenQ K) (tCons (tVar 2) tNil)) (tC (.int 2))))) (tRet (tC (.bl false))) tNext) (tIfS (tOr (tNot (tB (tCall (sp_house_fits K) [] E0 (tCons (tVar 0) (tCons (tOp (rIxU K) (tVar 2) (tC (.int 0))) tNil))))) (tOr (tNot (tB (tCall (sp_house_fits K) [] E0 (tCons (tVar 0) (tCons (tOp (rIxU K) (tVar 2) (tC (.int 1))) tNil))))) (tTest (tOp (rEqU K) (tOp (rIxU K) (tVar 2) (tC (.int 0))) (tOp (rIxU K) (tVar 2) (tC (.int 1))))))) (tRet (tC (.bl false))) tNext))) (tRet (tC (.bl true))))
theorem sc_pairs_fit : FnScope ["many", "things", "pair"] ["many", "things"] (defScope Hd.s_pairs_fit) := ⟨rfl, rfl, rfl, by decide +kernel, rfl, by decide +kernel, by decide +kernel⟩
theorem tm_pairs_fit (T : Hd.Tx K mg) (c_house_fits : Cal P w K mg base 3 "house_fits" ["many", "thing"] (sp_house_fits K)) : BodyOk P w K mg base ["many", "things", "pair"] "pairs_fit" Hd.s_pairs_fit f 3 (fun t => t = rd_pairs_fit P w K) :=
  fun cdv A outer s H E hr => ⟨_, (pss_cons (ps_for PassesOwn.never rfl (pi_seq (pv 1)) (pg_name (i := 2) sc_pairs_fit.nd rfl (Or.inl rfl)) (pss_cons (ps_if (PW.pt (pw_or (pt_not (pt_val (pe_callB call_isi (by rfl) T.b_isinstance (by decide +kernel) (pa_cons (pv 2) (pa_cons (pe_bltn (v := .ty "tuple") rfl (T.b_tuple) boot_tuple rfl) pa_nil))))) (pw_or1 (pt_cmpR (op_neU hr.units) (pe_callB call_lenQ (by rfl) T.b_len PySem.boot_len (pa_cons (pv 2) pa_nil)) pe_int (nomark _))))) (pss_one (ps_ret pe_bl)) pss_nil) (pss_one (ps_if (PW.pt (pw_or (pt_not (pt_val (pc c_house_fits (hr.mono (by decide)) rfl (pa_cons (pv 0) (pa_cons (pe_ix ix_U (pv 2) pe_int (fun _ _ => rfl)) pa_nil))))) (pw_or (pt_not (pt_val (pc c_house_fits (hr.mono (by decide)) rfl (pa_cons (pv 0) (pa_cons (pe_ix ix_U (pv 2) pe_int (fun _ _ => rfl)) pa_nil))))) (pw_or1 (pt_cmpR (op_eqU hr.units) (pe_ix ix_U (pv 2) pe_int (fun _ _ => rfl)) (pe_ix ix_U (pv 2) pe_int (fun _ _ => rfl)) (nomark _)))))) (pss_one (ps_ret pe_bl)) pss_nil)))) (pss_one (ps_ret pe_bl))), rfl⟩
def rd_net_by (P : Program) (w : World) (K : Fg) : TS := (tRet (tCB (rTupQ K) (tCons (tSS K P w (tLc (iSeq K (tVar 0)) (gName 1) tYes (tCall (sp_wire_between K) [] E0 (tCons (tOp (rIxU K) (tVar 1) (tC (.int 0))) (tCons (tOp (rIxU K) (tVar 1) (tC (.int 1))) tNil))) [1])) tNil)))
theorem sc_net_by : FnScope ["pairs", "pair"] ["pairs"] (defScope Hd.s_net_by) := ⟨rfl, rfl, rfl, by decide +kernel, rfl, by decide +kernel, by decide +kernel⟩
theorem tm_net_by (T : Hd.Tx K mg) (c_wire_between : Cal P w K mg base 1 "wire_between" ["one", "other"] (sp_wire_between K)) : BodyOk P w K mg base ["pairs", "pair"] "net_by" Hd.s_net_by f 1 (fun t => t = rd_net_by P w K) :=
  fun cdv A outer s H E hr => ⟨_, (pss_one (ps_ret (pe_callTy call_tupQ (by rfl) T.b_tuple (by decide +kernel) (pa_cons (pe_callB (cr_sortSU rfl hr.units) (by rfl) T.b_sorted (by decide +kernel) (pa_cons (pe_callTy (cr_setU rfl hr.units) (by rfl) T.b_set (by decide +kernel) (pa_cons (pe_lc (own := [("pair", 1)]) rfl sc_net_by.nd (pi_seq (pv 0)) (blkOk_by (by kernel_rfl)) (fun _ _ _ _ _ => (pg_name (i := 1) sc_net_by.nd rfl (by first | exact Or.inl rfl | exact Or.inr rfl))) (fun _ _ _ _ _ => pts_nil) (fun _ _ _ _ _ => (pc c_wire_between (hr.mono (by decide)) rfl (pa_cons (pe_ix ix_U (pv 1) pe_int (fun _ _ => rfl)) (pa_cons (pe_ix ix_U (pv 1) pe_int (fun _ _ => rfl)) pa_nil))))) pa_nil)) pa_nil)) pa_nil)))), rfl⟩
end
end Dy
/-! ## Tm1 -/
namespace Dy
open PySem L2 PyProof.Rows
section
variable {P : Program} {w : World} {K : Fg} {mg : Str → Option Value} {base : Heap} {f : Addr}

def rd_integer_fits (P : Program) (w : World) (K : Fg) : TS := (tRet (tAndV (tCB (rIsi K) (tCons (tVar 0) (tCons (tC (.ty "int")) tNil))) (tNotV (tCB (rIsi K) (tCons (tVar 0) (tCons (tC (.ty "bool")) tNil))))))
theorem sc_integer_fits : FnScope ["thing"] ["thing"] (defScope Hd.s_integer_fits) := ⟨rfl, rfl, rfl, by decide +kernel, rfl, by decide +kernel, by decide +kernel⟩
theorem tm_integer_fits (T : Hd.Tx K mg)  : BodyOk P w K mg base ["thing"] "integer_fits" Hd.s_integer_fits f 0 (fun t => t = rd_integer_fits P w K) :=
  fun cdv A outer s H E hr => ⟨_, (pss_one (ps_ret (pe_and (pe_callB call_isi (by rfl) T.b_isinstance (by decide +kernel) (pa_cons (pv 0) (pa_cons (pe_bltn (v := .ty "int") rfl (T.b_int) boot_int rfl) pa_nil))) (pe_one (pe_not (pe_callB call_isi (by rfl) T.b_isinstance (by decide +kernel) (pa_cons (pv 0) (pa_cons (pe_bltn (v := .ty "bool") rfl (T.b_bool) boot_bool rfl) pa_nil)))))))), rfl⟩
def rd_number_fits (P : Program) (w : World) (K : Fg) : TS := (tRet (tAndV (tCall (sp_integer_fits K) [] E0 (tCons (tVar 0) tNil)) (tOp (rI0 fun i j => V.bl (decide (j ≤ i))) (tVar 0) (tC (.int 0)))))
theorem sc_number_fits : FnScope ["thing"] ["thing"] (defScope Hd.s_number_fits) := ⟨rfl, rfl, rfl, by decide +kernel, rfl, by decide +kernel, by decide +kernel⟩
theorem tm_number_fits (T : Hd.Tx K mg) (c_integer_fits : Cal P w K mg base 1 "integer_fits" ["thing"] (sp_integer_fits K)) : BodyOk P w K mg base ["thing"] "number_fits" Hd.s_number_fits f 1 (fun t => t = rd_number_fits P w K) :=
  fun cdv A outer s H E hr => ⟨_, (pss_one (ps_ret (pe_and (pc c_integer_fits (hr.mono (by decide)) rfl (pa_cons (pv 0) pa_nil)) (pe_one (pe_cmpR op_ge (pv 0) pe_int (nomark _)))))), rfl⟩
def rd_many_fits (P : Program) (w : World) (K : Fg) : TS := (tRet (tAndV (tCall (sp_integer_fits K) [] E0 (tCons (tVar 0) tNil)) (tOp (rI0 fun i j => V.bl (decide (j ≤ i))) (tVar 0) (tC (.int 1)))))
theorem sc_many_fits : FnScope ["thing"] ["thing"] (defScope Hd.s_many_fits) := ⟨rfl, rfl, rfl, by decide +kernel, rfl, by decide +kernel, by decide +kernel⟩
theorem tm_many_fits (T : Hd.Tx K mg) (c_integer_fits : Cal P w K mg base 1 "integer_fits" ["thing"] (sp_integer_fits K)) : BodyOk P w K mg base ["thing"] "many_fits" Hd.s_many_fits f 1 (fun t => t = rd_many_fits P w K) :=
  fun cdv A outer s H E hr => ⟨_, (pss_one (ps_ret (pe_and (pc c_integer_fits (hr.mono (by decide)) rfl (pa_cons (pv 0) pa_nil)) (pe_one (pe_cmpR op_ge (pv 0) pe_int (nomark _)))))), rfl⟩
def rd_sizes_fit (P : Program) (w : World) (K : Fg) : TS := (tRet (tAndV (tCB (rIsi K) (tCons (tVar 0) (tCons (tC (.ty "tuple")) tNil))) (tAndV (tOp (rI0 fun i j => V.bl (decide (j < i))) (tCB (rLenQ K) (tCons (tVar 0) tNil)) (tC (.int 0))) (tCB (rAll K) (tCons (tLc (iSeq K (tVar 0)) (gName 1) tYes (tCall (sp_many_fits K) [] E0 (tCons (tVar 1) tNil)) [1]) tNil)))))
theorem sc_sizes_fit : FnScope ["thing", "size"] ["thing"] (defScope Hd.s_sizes_fit) := ⟨rfl, rfl, rfl, by decide +kernel, rfl, by decide +kernel, by decide +kernel⟩
theorem tm_sizes_fit (T : Hd.Tx K mg) (c_many_fits : Cal P w K mg base 2 "many_fits" ["thing"] (sp_many_fits K)) : BodyOk P w K mg base ["thing", "size"] "sizes_fit" Hd.s_sizes_fit f 2 (fun t => t = rd_sizes_fit P w K) :=
  fun cdv A outer s H E hr => ⟨_, (pss_one (ps_ret (pe_and (pe_callB call_isi (by rfl) T.b_isinstance (by decide +kernel) (pa_cons (pv 0) (pa_cons (pe_bltn (v := .ty "tuple") rfl (T.b_tuple) boot_tuple rfl) pa_nil))) (pe_and (pe_cmpR op_gt (pe_callB call_lenQ (by rfl) T.b_len PySem.boot_len (pa_cons (pv 0) pa_nil)) pe_int (nomark _)) (pe_one (pe_callB (cr_all rfl) (by rfl) T.b_all (by decide +kernel) (pa_cons (pe_lc (own := [("size", 1)]) rfl sc_sizes_fit.nd (pi_seq (pv 0)) (blkOk_by (by kernel_rfl)) (fun _ _ _ _ _ => (pg_name (i := 1) sc_sizes_fit.nd rfl (by first | exact Or.inl rfl | exact Or.inr rfl))) (fun _ _ _ _ _ => pts_nil) (fun _ _ _ _ _ => (pc c_many_fits (hr.mono (by decide)) rfl (pa_cons (pv 1) pa_nil)))) pa_nil))))))), rfl⟩
def rd_house_fits (P : Program) (w : World) (K : Fg) : TS := (tRet (tAndV (tCall (sp_number_fits K) [] E0 (tCons (tVar 1) tNil)) (tOp (rI0 fun i j => V.bl (decide (i < j))) (tVar 1) (tVar 0))))
theorem sc_house_fits : FnScope ["many", "thing"] ["many", "thing"] (defScope Hd.s_house_fits) := ⟨rfl, rfl, rfl, by decide +kernel, rfl, by decide +kernel, by decide +kernel⟩
theorem tm_house_fits (T : Hd.Tx K mg) (c_number_fits : Cal P w K mg base 2 "number_fits" ["thing"] (sp_number_fits K)) : BodyOk P w K mg base ["many", "thing"] "house_fits" Hd.s_house_fits f 2 (fun t => t = rd_house_fits P w K) :=
  fun cdv A outer s H E hr => ⟨_, (pss_one (ps_ret (pe_and (pc c_number_fits (hr.mono (by decide)) rfl (pa_cons (pv 1) pa_nil)) (pe_one (pe_cmpR op_lt (pv 1) (pv 0) (nomark _)))))), rfl⟩
def rd_lot_fits (P : Program) (w : World) (K : Fg) : TS := (tSeq (tIfS (tNot (tB (tCB (rIsi K) (tCons (tVar 1) (tCons (tC (.ty "tuple")) tNil))))) (tRet (tC (.bl false))) tNext) (tSeq (tAsg (tUn (rU fun i => V.int (-i)) (tC (.int 1))) (gName 2)) (tSeq (tFor (iSeq K (tVar 1)) (gName 3) (tSeq (tIfS (tOr (tNot (tB (tCall (sp_house_fits K) [] E0 (tCons (tVar 0) (tCons (tVar 3) tNil))))) (tTest (tOp (rLeU K) (tVar 3) (tVar 2)))) (tRet (tC (.bl false))) tNext) (tAsg (tVar 3) (gName 2)))) (tRet (tC (.bl true))))))
theorem sc_lot_fits : FnScope ["many", "thing", "last", "house"] ["many", "thing"] (defScope Hd.s_lot_fits) := ⟨rfl, rfl, rfl, by decide +kernel, rfl, by decide +kernel, by decide +kernel⟩
theorem tm_lot_fits (T : Hd.Tx K mg) (c_house_fits : Cal P w K mg base 3 "house_fits" ["many", "thing"] (sp_house_fits K)) : BodyOk P w K mg base ["many", "thing", "last", "house"] "lot_fits" Hd.s_lot_fits f 3 (fun t => t = rd_lot_fits P w K) :=
  fun cdv A outer s H E hr => ⟨_, (pss_cons (ps_if (pt_not (pt_val (pe_callB call_isi (by rfl) T.b_isinstance (by decide +kernel) (pa_cons (pv 1) (pa_cons (pe_bltn (v := .ty "tuple") rfl (T.b_tuple) boot_tuple rfl) pa_nil))))) (pss_one (ps_ret pe_bl)) pss_nil) (pss_cons (ps_set (i := 2) sc_lot_fits.nd rfl (Or.inl rfl) (pe_un un_neg pe_int)) (pss_cons (ps_for PassesOwn.never rfl (pi_seq (pv 1)) (pg_name (i := 3) sc_lot_fits.nd rfl (Or.inl rfl)) (pss_cons (ps_if (PW.pt (pw_or (pt_not (pt_val (pc c_house_fits (hr.mono (by decide)) rfl (pa_cons (pv 0) (pa_cons (pv 3) pa_nil))))) (pw_or1 (pt_cmpR (op_leU hr.units0) (pv 3) (pv 2) (nomark _))))) (pss_one (ps_ret pe_bl)) pss_nil) (pss_one (ps_set (i := 2) sc_lot_fits.nd rfl (Or.inl rfl) (pv 3))))) (pss_one (ps_ret pe_bl))))), rfl⟩
def rd_is_lots (P : Program) (w : World) (K : Fg) : TS := (tRet (tAndV (tCB (rIsi K) (tCons (tVar 1) (tCons (tC (.ty "tuple")) tNil))) (tCB (rAll K) (tCons (tLc (iSeq K (tVar 1)) (gName 2) tYes (tCall (sp_lot_fits K) [] E0 (tCons (tVar 0) (tCons (tVar 2) tNil))) [2]) tNil))))
theorem sc_is_lots : FnScope ["many", "thing", "lot"] ["many", "thing"] (defScope Hd.s_is_lots) := ⟨rfl, rfl, rfl, by decide +kernel, rfl, by decide +kernel, by decide +kernel⟩
theorem tm_is_lots (T : Hd.Tx K mg) (c_lot_fits : Cal P w K mg base 4 "lot_fits" ["many", "thing"] (sp_lot_fits K)) : BodyOk P w K mg base ["many", "thing", "lot"] "is_lots" Hd.s_is_lots f 4 (fun t => t = rd_is_lots P w K) :=
  fun cdv A outer s H E hr => ⟨_, (pss_one (ps_ret (pe_and (pe_callB call_isi (by rfl) T.b_isinstance (by decide +kernel) (pa_cons (pv 1) (pa_cons (pe_bltn (v := .ty "tuple") rfl (T.b_tuple) boot_tuple rfl) pa_nil))) (pe_one (pe_callB (cr_all rfl) (by rfl) T.b_all (by decide +kernel) (pa_cons (pe_lc (own := [("lot", 2)]) rfl sc_is_lots.nd (pi_seq (pv 1)) (blkOk_by (by kernel_rfl)) (fun _ _ _ _ _ => (pg_name (i := 2) sc_is_lots.nd rfl (by first | exact Or.inl rfl | exact Or.inr rfl))) (fun _ _ _ _ _ => pts_nil) (fun _ _ _ _ _ => (pc c_lot_fits (hr.mono (by decide)) rfl (pa_cons (pv 0) (pa_cons (pv 2) pa_nil))))) pa_nil)))))), rfl⟩
def rd_lot_within (P : Program) (w : World) (K : Fg) : TS := (tRet (tCB (rAll K) (tCons (tLc (iSeq K (tVar 0)) (gName 2) tYes (tOp (rInU K false) (tVar 2) (tVar 1)) [2]) tNil)))
theorem sc_lot_within : FnScope ["one", "other", "house"] ["one", "other"] (defScope Hd.s_lot_within) := ⟨rfl, rfl, rfl, by decide +kernel, rfl, by decide +kernel, by decide +kernel⟩
theorem tm_lot_within (T : Hd.Tx K mg)  : BodyOk P w K mg base ["one", "other", "house"] "lot_within" Hd.s_lot_within f 0 (fun t => t = rd_lot_within P w K) :=
  fun cdv A outer s H E hr => ⟨_, (pss_one (ps_ret (pe_callB (cr_all rfl) (by rfl) T.b_all (by decide +kernel) (pa_cons (pe_lc (own := [("house", 2)]) rfl sc_lot_within.nd (pi_seq (pv 0)) (blkOk_by (by kernel_rfl)) (fun _ _ _ _ _ => (pg_name (i := 2) sc_lot_within.nd rfl (by first | exact Or.inl rfl | exact Or.inr rfl))) (fun _ _ _ _ _ => pts_nil) (fun _ _ _ _ _ => (pe_cmpR (op_inU (units65 hr)) (pv 2) (pv 1) (by rfl)))) pa_nil)))), rfl⟩
def rd_others_in (P : Program) (w : World) (K : Fg) : TS := (tRet (tCB (rTupQ K) (tCons (tLc (iRng1 (tCons (tVar 0) tNil)) (gName 2) (tTest (tOp (rInU K true) (tVar 2) (tVar 1))) (tVar 2) [2]) tNil)))
theorem sc_others_in : FnScope ["many", "lot", "house"] ["many", "lot"] (defScope Hd.s_others_in) := ⟨rfl, rfl, rfl, by decide +kernel, rfl, by decide +kernel, by decide +kernel⟩
theorem tm_others_in (T : Hd.Tx K mg)  : BodyOk P w K mg base ["many", "lot", "house"] "others_in" Hd.s_others_in f 0 (fun t => t = rd_others_in P w K) :=
  fun cdv A outer s H E hr => ⟨_, (pss_one (ps_ret (pe_callTy call_tupQ (by rfl) T.b_tuple (by decide +kernel) (pa_cons (pe_lc (own := [("house", 2)]) rfl sc_others_in.nd (pi_range1 rfl T.b_range (pa_cons (pv 0) pa_nil)) (blkOk_by (by kernel_rfl)) (fun _ _ _ _ _ => (pg_name (i := 2) sc_others_in.nd rfl (by first | exact Or.inl rfl | exact Or.inr rfl))) (fun _ _ _ _ _ => (pts_one (pt_cmpR (op_notInU (units65 hr)) (pv 2) (pv 1) (by rfl)))) (fun _ _ _ _ _ => (pv 2))) pa_nil)))), rfl⟩
def rd_wire_between (P : Program) (w : World) (K : Fg) : TS := (tSeq (tIfS (tTest (tOp (rI0 fun i j => V.bl (decide (i < j))) (tVar 0) (tVar 1))) (tRet (tTup (tCons (tVar 0) (tCons (tVar 1) tNil)))) tNext) (tRet (tTup (tCons (tVar 1) (tCons (tVar 0) tNil)))))
theorem sc_wire_between : FnScope ["one", "other"] ["one", "other"] (defScope Hd.s_wire_between) := ⟨rfl, rfl, rfl, by decide +kernel, rfl, by decide +kernel, by decide +kernel⟩
theorem tm_wire_between (T : Hd.Tx K mg)  : BodyOk P w K mg base ["one", "other"] "wire_between" Hd.s_wire_between f 0 (fun t => t = rd_wire_between P w K) :=
  fun cdv A outer s H E hr => ⟨_, (pss_cons (ps_if (pt_cmpR op_lt (pv 0) (pv 1) (nomark _)) (pss_one (ps_ret (pe_tup (pa_cons (pv 0) (pa_cons (pv 1) pa_nil))))) pss_nil) (pss_one (ps_ret (pe_tup (pa_cons (pv 1) (pa_cons (pv 0) pa_nil)))))), rfl⟩
def rd_wire_fits (P : Program) (w : World) (K : Fg) : TS := (tSeq (tIfS (tOr (tNot (tB (tCB (rIsi K) (tCons (tVar 1) (tCons (tC (.ty "tuple")) tNil))))) (tTest (tOp (rNeU K) (tCB (rLenQ K) (tCons (tVar 1) tNil)) (tC (.int 2))))) (tRet (tC (.bl false))) tNext) (tRet (tAndV (tCall (sp_house_fits K) [] E0 (tCons (tVar 0) (tCons (tOp (rIxU K) (tVar 1) (tC (.int 0))) tNil))) (tAndV (tCall (sp_house_fits K) [] E0 (tCons (tVar 0) (tCons (tOp (rIxU K) (tVar 1) (tC (.int 1))) tNil))) (tOp (rI0 fun i j => V.bl (decide (i < j))) (tOp (rIxU K) (tVar 1) (tC (.int 0))) (tOp (rIxU K) (tVar 1) (tC (.int 1))))))))
theorem sc_wire_fits : FnScope ["many", "thing"] ["many", "thing"] (defScope Hd.s_wire_fits) := ⟨rfl, rfl, rfl, by decide +kernel, rfl, by decide +kernel, by decide +kernel⟩
theorem tm_wire_fits (T : Hd.Tx K mg) (c_house_fits : Cal P w K mg base 3 "house_fits" ["many", "thing"] (sp_house_fits K)) : BodyOk P w K mg base ["many", "thing"] "wire_fits" Hd.s_wire_fits f 3 (fun t => t = rd_wire_fits P w K) :=
  fun cdv A outer s H E hr => ⟨_, (pss_cons (ps_if (PW.pt (pw_or (pt_not (pt_val (pe_callB call_isi (by rfl) T.b_isinstance (by decide +kernel) (pa_cons (pv 1) (pa_cons (pe_bltn (v := .ty "tuple") rfl (T.b_tuple) boot_tuple rfl) pa_nil))))) (pw_or1 (pt_cmpR (op_neU hr.units) (pe_callB call_lenQ (by rfl) T.b_len PySem.boot_len (pa_cons (pv 1) pa_nil)) pe_int (nomark _))))) (pss_one (ps_ret pe_bl)) pss_nil) (pss_one (ps_ret (pe_and (pc c_house_fits (hr.mono (by decide)) rfl (pa_cons (pv 0) (pa_cons (pe_ix ix_U (pv 1) pe_int (fun _ _ => rfl)) pa_nil))) (pe_and (pc c_house_fits (hr.mono (by decide)) rfl (pa_cons (pv 0) (pa_cons (pe_ix ix_U (pv 1) pe_int (fun _ _ => rfl)) pa_nil))) (pe_one (pe_cmpR op_lt (pe_ix ix_U (pv 1) pe_int (fun _ _ => rfl)) (pe_ix ix_U (pv 1) pe_int (fun _ _ => rfl)) (nomark _)))))))), rfl⟩
def rd_two_fit (P : Program) (w : World) (K : Fg) : TS := (tRet (tAndV (tCall (sp_house_fits K) [] E0 (tCons (tVar 0) (tCons (tVar 2) tNil))) (tOp (rNeU K) (tVar 2) (tVar 1))))
theorem sc_two_fit : FnScope ["many", "one", "other"] ["many", "one", "other"] (defScope Hd.s_two_fit) := ⟨rfl, rfl, rfl, by decide +kernel, rfl, by decide +kernel, by decide +kernel⟩
theorem tm_two_fit (T : Hd.Tx K mg) (c_house_fits : Cal P w K mg base 3 "house_fits" ["many", "thing"] (sp_house_fits K)) : BodyOk P w K mg base ["many", "one", "other"] "two_fit" Hd.s_two_fit f 3 (fun t => t = rd_two_fit P w K) :=
  fun cdv A outer s H E hr => ⟨_, (pss_one (ps_ret (pe_and (pc c_house_fits (hr.mono (by decide)) rfl (pa_cons (pv 0) (pa_cons (pv 2) pa_nil))) (pe_one (pe_cmpR (op_neU hr.units) (pv 2) (pv 1) (nomark _)))))), rfl⟩
def rd_feared_in (P : Program) (w : World) (K : Fg) : TS := (tRet (tCB (rAny K) (tCons (tLc (iSeq K (tVar 0)) (gName 2) tYes (tCall (sp_lot_within K) [] E0 (tCons (tVar 1) (tCons (tVar 2) tNil))) [2]) tNil)))
theorem sc_feared_in : FnScope ["fears", "lot", "fear"] ["fears", "lot"] (defScope Hd.s_feared_in) := ⟨rfl, rfl, rfl, by decide +kernel, rfl, by decide +kernel, by decide +kernel⟩
theorem tm_feared_in (T : Hd.Tx K mg) (c_lot_within : Cal P w K mg base 1 "lot_within" ["one", "other"] (sp_lot_within K)) : BodyOk P w K mg base ["fears", "lot", "fear"] "feared_in" Hd.s_feared_in f 1 (fun t => t = rd_feared_in P w K) :=
  fun cdv A outer s H E hr => ⟨_, (pss_one (ps_ret (pe_callB (cr_any rfl) (by rfl) T.b_any (by decide +kernel) (pa_cons (pe_lc (own := [("fear", 2)]) rfl sc_feared_in.nd (pi_seq (pv 0)) (blkOk_by (by kernel_rfl)) (fun _ _ _ _ _ => (pg_name (i := 2) sc_feared_in.nd rfl (by first | exact Or.inl rfl | exact Or.inr rfl))) (fun _ _ _ _ _ => pts_nil) (fun _ _ _ _ _ => (pc c_lot_within (hr.mono (by decide)) rfl (pa_cons (pv 1) (pa_cons (pv 2) pa_nil))))) pa_nil)))), rfl⟩
def rd_net_fits (P : Program) (w : World) (K : Fg) : TS := (tSeq (tIfS (tOr (tNot (tB (tCB (rIsi K) (tCons (tVar 1) (tCons (tC (.ty "tuple")) tNil))))) (tNot (tB (tCB (rAll K) (tCons (tLc (iSeq K (tVar 1)) (gName 3) tYes (tCall (sp_wire_fits K) [] E0 (tCons (tVar 0) (tCons (tVar 3) tNil))) [3]) tNil))))) (tRet (tC (.bl false))) tNext) (tSeq (tFor (iRng2 (tCons (tC (.int 1)) (tCons (tCB (rLenQ K) (tCons (tVar 1) tNil)) tNil))) (gName 2) (tIfS (tTest (tOp (rLeU K) (tOp (rIxU K) (tVar 1) (tVar 2)) (tOp (rIxU K) (tVar 1) (tOp (rI0 fun i j => V.int (i - j)) (tVar 2) (tC (.int 1)))))) (tRet (tC (.bl false))) tNext)) (tRet (tC (.bl true)))))
theorem sc_net_fits : FnScope ["many", "thing", "at", "wire"] ["many", "thing"] (defScope Hd.s_net_fits) := ⟨rfl, rfl, rfl, by decide +kernel, rfl, by decide +kernel, by decide +kernel⟩
theorem tm_net_fits (T : Hd.Tx K mg) (c_wire_fits : Cal P w K mg base 4 "wire_fits" ["many", "thing"] (sp_wire_fits K)) : BodyOk P w K mg base ["many", "thing", "at", "wire"] "net_fits" Hd.s_net_fits f 4 (fun t => t = rd_net_fits P w K) :=
  fun cdv A outer s H E hr => ⟨_, (pss_cons (ps_if (PW.pt (pw_or (pt_not (pt_val (pe_callB call_isi (by rfl) T.b_isinstance (by decide +kernel) (pa_cons (pv 1) (pa_cons (pe_bltn (v := .ty "tuple") rfl (T.b_tuple) boot_tuple rfl) pa_nil))))) (pw_or1 (pt_not (pt_val (pe_callB (cr_all rfl) (by rfl) T.b_all (by decide +kernel) (pa_cons (pe_lc (own := [("wire", 3)]) rfl sc_net_fits.nd (pi_seq (pv 1)) (blkOk_by (by kernel_rfl)) (fun _ _ _ _ _ => (pg_name (i := 3) sc_net_fits.nd rfl (by first | exact Or.inl rfl | exact Or.inr rfl))) (fun _ _ _ _ _ => pts_nil) (fun _ _ _ _ _ => (pc c_wire_fits (hr.mono (by decide)) rfl (pa_cons (pv 0) (pa_cons (pv 3) pa_nil))))) pa_nil))))))) (pss_one (ps_ret pe_bl)) pss_nil) (pss_cons (ps_for PassesOwn.never rfl (pi_range2 rfl T.b_range (pa_cons pe_int (pa_cons (pe_callB call_lenQ (by rfl) T.b_len PySem.boot_len (pa_cons (pv 1) pa_nil)) pa_nil))) (pg_name (i := 2) sc_net_fits.nd rfl (Or.inl rfl)) (pss_one (ps_if (pt_cmpR (op_leU hr.units0) (pe_ix ix_U (pv 1) (pv 2) (fun _ _ => rfl)) (pe_ix ix_U (pv 1) (pe_op op_sub (pv 2) pe_int) (fun _ _ => rfl)) (nomark _)) (pss_one (ps_ret pe_bl)) pss_nil))) (pss_one (ps_ret pe_bl)))), rfl⟩
def rd_bare_wired (P : Program) (w : World) (K : Fg) : TS := (tRet (tCB (rTupQ K) (tCons (tCB (rSortU K) (tCons (tLc (iSeq K (tVar 0)) (gName 2) (tTest (tOp (rInU K false) (tVar 1) (tVar 2))) (tIf (tTest (tOp (rEqU K) (tOp (rIxU K) (tVar 2) (tC (.int 0))) (tVar 1))) (tOp (rIxU K) (tVar 2) (tC (.int 1))) (tOp (rIxU K) (tVar 2) (tC (.int 0)))) [2]) tNil)) tNil)))
theorem sc_bare_wired : FnScope ["net", "house", "wire"] ["net", "house"] (defScope Hd.s_bare_wired) := ⟨rfl, rfl, rfl, by decide +kernel, rfl, by decide +kernel, by decide +kernel⟩
theorem tm_bare_wired (T : Hd.Tx K mg)  : BodyOk P w K mg base ["net", "house", "wire"] "bare_wired" Hd.s_bare_wired f 0 (fun t => t = rd_bare_wired P w K) :=
  fun cdv A outer s H E hr => ⟨_, (pss_one (ps_ret (pe_callTy call_tupQ (by rfl) T.b_tuple (by decide +kernel) (pa_cons (pe_callB (cr_sortU hr.units) (by rfl) T.b_sorted (by decide +kernel) (pa_cons (pe_lc (own := [("wire", 2)]) rfl sc_bare_wired.nd (pi_seq (pv 0)) (blkOk_by (by kernel_rfl)) (fun _ _ _ _ _ => (pg_name (i := 2) sc_bare_wired.nd rfl (by first | exact Or.inl rfl | exact Or.inr rfl))) (fun _ _ _ _ _ => (pts_one (pt_cmpR (op_inU (units65 hr)) (pv 1) (pv 2) (by rfl)))) (fun _ _ _ _ _ => (pe_ifExp (pt_cmpR (op_eqU hr.units) (pe_ix ix_U (pv 2) pe_int (fun _ _ => rfl)) (pv 1) (nomark _)) (pe_ix ix_U (pv 2) pe_int (fun _ _ => rfl)) (pe_ix ix_U (pv 2) pe_int (fun _ _ => rfl))))) pa_nil)) pa_nil)))), rfl⟩
end
end Dy
/-! ## Run1 -/
namespace Dy
open PySem L2 PyProof.Rows Mi
section
variable {P : Program} {w : World} {K : Fg}
theorem run_integer_fits (x1 : Int) : Run K (rd_integer_fits P w K) [.fz x1] (.ret true []) := by
  refine r_retIs (ev_andV (ev_isiI (b := true) (ev_fz rfl) (by decide +kernel)) (fun _ => (ev_notV (ev_isiI (b := false) (ev_fz rfl) (by decide +kernel))))) rfl
theorem run_number_fits (x1 : Int) : Run K (rd_number_fits P w K) [.fz x1] (.ret (decide (0 ≤ x1)) []) := by
  refine r_retIs (ev_andV ((ev_sp1 (ea_cons (ev_fz rfl) ea_nil) trivial)).ev (fun _ => (ev_ge (ev_fz rfl) ev_int))) (Bool.true_and _)
theorem run_many_fits (x1 : Int) : Run K (rd_many_fits P w K) [.fz x1] (.ret (decide (1 ≤ x1)) []) := by
  refine r_retIs (ev_andV ((ev_sp1 (ea_cons (ev_fz rfl) ea_nil) trivial)).ev (fun _ => (ev_ge (ev_fz rfl) ev_int))) (Bool.true_and _)
theorem run_sizes_fit (x1 : (List Int)) (hp : SizesOk x1) : Run K (rd_sizes_fit P w K) [.fz x1, .any] (.ret true []) := by
  refine r_retIs (ev_andV (ev_isiT (b := true) (ev_fz rfl) (by decide +kernel)) (fun _ => (ev_andV (ev_gt (ev_len (Ev.sqT (ev_fz rfl))) ev_int) (fun _ => (ev_all ((ev_lcA (ei_seq (Ev.sqT (ev_fz rfl))) (fun x hx => eg_name) (fun x hx => ((ev_sp1 (ea_cons (ev_fz rfl) ea_nil) trivial)).ev))).ev))))) ?_
  have h1 : 0 < (x1.length : Int) := by
    have := List.length_pos_iff.mpr hp.1
    omega
  simp only [Bool.true_and, decide_eq_true h1, List.all_map]
  rw [List.all_eq_true]
  intro x hx
  simpa using hp.2 x hx
theorem run_house_fits (x1 : Int) (x2 : Int) : Run K (rd_house_fits P w K) [.fz x1, .fz x2] (.ret (inHouse x1 x2) []) := by
  refine r_retIs (ev_andV ((ev_sp1 (ea_cons (ev_fz rfl) ea_nil) trivial)).ev (fun _ => (ev_lt (ev_fz rfl) (ev_fz rfl)))) rfl
theorem run_is_lots (x1 : Int) (x2 : List Lot) (hp : ∀ l ∈ x2, LotOk x1 l) : Run K (rd_is_lots P w K) [.fz x1, .fz x2, .any] (.ret true []) := by
  refine r_retIs (ev_andV (ev_isiT (b := true) (ev_fz rfl) (by decide +kernel)) (fun _ => (ev_all ((ev_lcA (ei_seq (Ev.sqT (ev_fz rfl))) (fun x hx => eg_name) (fun x hx => ((ev_sp2 (ea_cons (ev_fz rfl) (ea_cons (ev_fz rfl) ea_nil)) (hp x hx))).ev))).ev))) ?_
  simp [List.all_map]
theorem run_lot_within (x1 : (List Int)) (x2 : (List Int)) : Run K (rd_lot_within P w K) [.fz x1, .fz x2, .any] (.ret (within x1 x2) []) := by
  refine r_retIs (ev_all ((ev_lcA (ei_seq (Ev.sqT (ev_fz rfl))) (fun x hx => eg_name) (fun x hx => (ev_in (ev_fz rfl) (Ev.sqT (ev_fz rfl)))))).ev) ?_
  simp [List.all_map, within]
theorem run_others_in (x1 : Int) (x2 : Lot) (hp : -1000 ≤ x1 ∧ x1 ≤ 1000) : Run K (rd_others_in P w K) [.fz x1, .fz x2, .any] (.ret (others x1 x2) []) := by
  refine r_retIs (ev_tupL (Ev.sqL ((ev_lc (ei_rng1 (ev_fz rfl) ⟨by omega, by omega⟩) (fun x hx => eg_name) (fun x hx => (et_test (ev_notIn (ev_fz rfl) (Ev.sqT (ev_fz rfl))))) (fun x hx hp => (ev_fz rfl)))).ev)) ?_
  simp [others]
theorem run_wire_between (x1 : Int) (x2 : Int) : Run K (rd_wire_between P w K) [.fz x1, .fz x2] (.ret (wireBetween x1 x2) []) := by
  refine r_ifS (et_test (ev_lt (ev_fz rfl) (ev_fz rfl))) (fun h1 => ?_) (fun h1 => ?_)
  · refine r_seqR (r_retIs (ev_pair (ev_fz rfl) (ev_fz rfl)) ?_)
    rw [wireBetween, if_pos (by simpa using h1)]
  · refine r_skip (r_retIs (ev_pair (ev_fz rfl) (ev_fz rfl)) ?_)
    rw [wireBetween, if_neg (by simpa using h1)]
theorem run_wire_fits (x1 : Int) (x2 : (Int × Int)) (hp : WireOk x1 x2) : Run K (rd_wire_fits P w K) [.fz x1, .fz x2] (.ret true []) := by
  refine r_ifS (et_or (et_not (et_B (ev_isiP (b := true) (ev_fz rfl) (by decide +kernel)))) (fun _ => (et_test (ev_neU (ev_len2 (ev_fz rfl)) ev_int)))) (fun h1 => ?_) (fun h1 => ?_)
  · simp at h1
  · refine r_skip (r_retIs (ev_andV ((ev_sp2 (ea_cons (ev_fz rfl) (ea_cons (ev_fst (ev_fz rfl)) ea_nil)) trivial)).ev (fun _ => (ev_andV ((ev_sp2 (ea_cons (ev_fz rfl) (ea_cons (ev_snd (ev_fz rfl)) ea_nil)) trivial)).ev (fun _ => (ev_lt (ev_fst (ev_fz rfl)) (ev_snd (ev_fz rfl))))))) ?_)
    obtain ⟨a, b, c⟩ := hp
    simp only [inHouse, Bool.and_eq_true, decide_eq_true_eq]
    omega
theorem run_two_fit (x1 : Int) (x2 : Int) (x3 : Int) : Run K (rd_two_fit P w K) [.fz x1, .fz x2, .fz x3] (.ret (inHouse x1 x3 && !decide (x3 = x2)) []) := by
  refine r_retIs (ev_andV ((ev_sp2 (ea_cons (ev_fz rfl) (ea_cons (ev_fz rfl) ea_nil)) trivial)).ev (fun _ => (ev_neU (ev_fz rfl) (ev_fz rfl)))) rfl
end
end Dy
/-! ## Run2 -/
namespace Dy
open PySem L2 PyProof.Rows Mi
local macro_rules | `(tactic| trivial) => `(tactic| (repeat (first | exact Le.stop | apply Le.same | apply Le.drop)); done)
theorem Few.lt {xs : List (List Int)} (h : xs.length ≤ 62) : Few xs := Few.len h
theorem mem_rng {lo x : Int} {n : Nat} : x ∈ rng lo n ↔ lo ≤ x ∧ x < lo + n := by
  unfold rng
  rw [List.mem_map]
  constructor
  · rintro ⟨a, h, e⟩
    have := List.mem_range.mp h
    omega
  · intro h
    exact ⟨(x - lo).toNat, List.mem_range.mpr (by omega), by omega⟩
theorem mem_split {α : Type} {xs pre post : List α} {x : α} (h : xs = pre ++ x :: post) : x ∈ xs := by
  rw [h]
  simp
section
variable {P : Program} {w : World} {K : Fg}
theorem run_a_want (x1 : Bool) (x2 : Str) (hp : x1 = true) : Run K (rd_a_want P w K) [.fz x1, .bs x2] (.next [.fz x1, .bs x2] : Out Unit) := by
  refine r_if (et_not (et_B (ev_fz rfl))) (fun h1 => ?_) (fun h1 => r_next)
  rw [hp] at h1
  cases h1
theorem pw_get {xs : List (List Int)} (h : xs.Pairwise (· < ·)) {i : Nat} (hi : i + 1 < xs.length) : at' xs (i : Int) < at' xs ((i + 1 : Nat) : Int) := by
  have e1 : at' xs (i : Int) = xs[i] := by unfold at'; simp [List.getD_eq_getElem?_getD, List.getElem?_eq_getElem (show i < xs.length by omega)]
  have e2 : at' xs ((i + 1 : Nat) : Int) = xs[i + 1] := by
    unfold at'
    rw [Int.toNat_natCast, List.getD_eq_getElem?_getD, List.getElem?_eq_getElem hi]
    rfl
  rw [e1, e2]
  exact List.pairwise_iff_getElem.mp h i (i + 1) (by omega) hi (by omega)
theorem run_fears_fit (x1 : Int) (x2 : List Lot) (hp : FearsOk x1 x2) (hl : x2.length ≤ 100) : Run K (rd_fears_fit P w K) [.fz x1, .fz x2, .any, .any, .any] (.ret true []) := by
  obtain ⟨p1, p2, p3, p4⟩ := hp
  refine r_ifS (et_or (et_not (et_B ((ev_sp2 (ea_cons (ev_fz rfl) (ea_cons (ev_fz rfl) ea_nil)) p2)).ev)) (fun _ => (et_test (ev_eqU (ev_len (Ev.sqT (ev_fz rfl))) ev_int)))) (fun h1 => ?_) (fun h1 => ?_)
  · have : x2.length ≠ 0 := fun e => p1 (List.length_eq_zero_iff.mp e)
    simp only [Bool.not_true, Bool.false_or, decide_eq_true_eq] at h1
    omega
  refine r_skip (r_for (P := fun _ => True) (S := fun _ => [.fz x1, .fz x2, .any, .any, .any]) (ef_rng2 ev_int (ev_len (Ev.sqT (ev_fz rfl))) (by omega) (by omega)) (by trivial) trivial (fun pre x => eg_name) (fun pre x post e _ => .inr ⟨trivial, ?_⟩) fun _ => ?_)
  · have hx := mem_rng.mp (mem_split e)
    have hb : 1 ≤ x ∧ x < x2.length := by omega
    refine r_if (et_test (ev_leT (ev_at (Ev.sqT (ev_fz rfl)) (ev_fz rfl) (by omega)) (ev_at (Ev.sqT (ev_fz rfl)) (ev_sub (ev_fz rfl) ev_int) (by omega)))) (fun h2 => ?_) (fun h2 => ?_)
    · have z := pw_get p3 (i := (x - 1).toNat) (by omega)
      have e1 : (((x - 1).toNat : Nat) : Int) = x - 1 := by omega
      have e2 : (((x - 1).toNat + 1 : Nat) : Int) = x := by omega
      rw [e1, e2] at z
      exact absurd (of_decide_eq_true h2) (List.not_le.mpr z)
    · exact r_le r_next (by trivial)
  · refine r_retIs (ev_notV (ev_any ((ev_lc2 (α := Lot) (β := Lot) (ys := fun _ => x2) (f := fun x y => !decide (x = y) && within x y) (ei_seq (Ev.sqT (ev_fz rfl))) (fun x hx => eg_name) (fun x => ?_) (fun x hx => (ez_tup (ev_fz rfl))) (fun x y hx hy => eg_name) (fun x y hx hy => (ev_andV (ev_neU (ev_fz rfl) (ev_fz rfl)) (fun _ => ((ev_sp2 (ea_cons (ev_fz rfl) (ea_cons (ev_fz rfl) ea_nil)) True.intro)).ev))) ?_)).ev)) ?_
    · exact ⟨True.intro, True.intro, True.intro, True.intro, True.intro, True.intro⟩
    · have e : ∀ ys : List Lot, (ys.flatMap fun x => x2.map fun y => (!decide (x = y) && within x y)).length = ys.length * x2.length := by
        intro ys
        induction ys with
        | nil => simp
        | cons y ys ih =>
          rw [List.flatMap_cons, List.length_append, ih, List.length_map, List.length_cons, Nat.succ_mul, Nat.add_comm]
      rw [e]
      exact Nat.le_trans (Nat.mul_le_mul hl hl) (by decide)
    · rw [Bool.not_eq_true', List.any_eq_false]
      intro b hb
      rw [List.mem_flatMap] at hb
      obtain ⟨x, hx, hb⟩ := hb
      obtain ⟨y, hy, rfl⟩ := List.mem_map.mp hb
      by_cases e : x = y
      · simp [e]
      · simp [p4 x hx y hy e]
end
end Dy
/-! ## Run3 -/
namespace Dy
open PySem L2 PyProof.Rows Mi
local macro_rules | `(tactic| trivial) => `(tactic| (repeat (first | exact Le.stop | apply Le.same | apply Le.drop)); done)
theorem snoc_ind {α : Type} {p : List α → Prop} (h0 : p []) (h1 : ∀ pre x, p pre → p (pre ++ [x])) (xs : List α) : p xs := by
  have : ∀ ys : List α, p ys.reverse := fun ys => by
    induction ys with
    | nil => exact h0
    | cons y ys ih =>
      rw [List.reverse_cons]
      exact h1 _ _ ih
  have z := this xs.reverse
  rwa [List.reverse_reverse] at z
section
variable {P : Program} {w : World} {K : Fg}
def lastOr (pre : List Int) : Int := pre.getLast?.getD (-1)
theorem lastOr_snoc (pre : List Int) (x : Int) : lastOr (pre ++ [x]) = x := by simp [lastOr]
theorem lastOr_lt {pre post : List Int} {x m : Int} (h : LotOk m (pre ++ x :: post)) : lastOr pre < x := by
  unfold lastOr
  cases e : pre.getLast? with
  | none =>
    have := (h.2 x (by simp)).1
    show (-1 : Int) < x
    omega
  | some y =>
    have := List.pairwise_append.mp h.1
    exact this.2.2 y (List.mem_of_getLast? e) x (by simp)
theorem run_lot_fits (x1 : Int) (x2 : Lot) (hp : LotOk x1 x2) : Run K (rd_lot_fits P w K) [.fz x1, .fz x2, .any, .any] (.ret true []) := by
  refine r_ifS (et_not (et_B (ev_isiT (b := true) (ev_fz rfl) (by decide +kernel)))) (fun h1 => nomatch h1) (fun h1 => ?_)
  refine r_skip (r_seq (r_set (ev_neg ev_int)) ?_)
  refine r_for (P := fun _ => True) (S := fun pre => [.fz x1, .fz x2, .fz (lastOr pre), .any]) (ef_tup (ev_fz rfl)) (by trivial) True.intro (fun pre x => eg_name) (fun pre x post e _ => .inr ⟨True.intro, ?_⟩) fun _ => r_retIs ev_bl rfl
  refine r_ifS (et_or (et_not (et_B ((ev_sp2 (ea_cons (ev_fz rfl) (ea_cons (ev_fz rfl) ea_nil)) True.intro)).ev)) (fun _ => (et_test (ev_leI (ev_fz rfl) (ev_fz rfl))))) (fun h2 => ?_) (fun h2 => ?_)
  · have hx := hp.2 x (mem_split e)
    rw [e] at hp
    have hl := lastOr_lt hp
    simp only [inHouse, Bool.or_eq_true, Bool.not_eq_true', Bool.and_eq_false_imp, decide_eq_true_eq, decide_eq_false_iff_not] at h2
    omega
  · refine r_skip (r_le (r_set (ev_fz rfl)) ?_)
    rw [lastOr_snoc]
    trivial
theorem pw_getP {xs : List Wire} (h : xs.Pairwise (fun p q => pl p < pl q)) {i : Nat} (hi : i + 1 < xs.length) : pl (at' xs (i : Int)) < pl (at' xs ((i + 1 : Nat) : Int)) := by
  have e1 : at' xs (i : Int) = xs[i] := by unfold at'; simp [List.getD_eq_getElem?_getD, List.getElem?_eq_getElem (show i < xs.length by omega)]
  have e2 : at' xs ((i + 1 : Nat) : Int) = xs[i + 1] := by
    unfold at'
    rw [Int.toNat_natCast, List.getD_eq_getElem?_getD, List.getElem?_eq_getElem hi]
    rfl
  rw [e1, e2]
  exact List.pairwise_iff_getElem.mp h i (i + 1) (by omega) hi (by omega)
theorem run_net_fits (x1 : Int) (x2 : List Wire) (hp : NetOk x1 x2) (hl : x2.length ≤ 1000) : Run K (rd_net_fits P w K) [.fz x1, .fz x2, .any, .any] (.ret true []) := by
  refine r_ifS (et_or (et_not (et_B (ev_isiT (b := true) (ev_fz rfl) (by decide +kernel)))) (fun _ => (et_not (et_B (ev_all ((ev_lcA (ei_seq (Ev.sqT (ev_fz rfl))) (fun x hx => eg_name) (fun x hx => ((ev_sp2 (ea_cons (ev_fz rfl) (ea_cons (ev_fz rfl) ea_nil)) (hp.1 x hx))).ev))).ev))))) (fun h1 => ?_) (fun h1 => ?_)
  · simp [List.all_map] at h1
  refine r_skip (r_for (P := fun _ => True) (S := fun _ => [.fz x1, .fz x2, .any, .any]) (ef_rng2 ev_int (ev_len (Ev.sqT (ev_fz rfl))) (by omega) (by omega)) (by trivial) True.intro (fun pre x => eg_name) (fun pre x post e _ => .inr ⟨True.intro, ?_⟩) fun _ => r_retIs ev_bl rfl)
  have hx := mem_rng.mp (mem_split e)
  refine r_if (et_test (ev_leP (ev_at (Ev.sqT (ev_fz rfl)) (ev_fz rfl) (by omega)) (ev_at (Ev.sqT (ev_fz rfl)) (ev_sub (ev_fz rfl) ev_int) (by omega)))) (fun h2 => ?_) (fun h2 => r_le r_next (by trivial))
  have z := pw_getP hp.2 (i := (x - 1).toNat) (by omega)
  have e1 : (((x - 1).toNat : Nat) : Int) = x - 1 := by omega
  have e2 : (((x - 1).toNat + 1 : Nat) : Int) = x := by omega
  rw [e1, e2] at z
  exact absurd (of_decide_eq_true h2) (List.not_le.mpr z)
theorem any_map {α : Type} (f : α → Bool) (xs : List α) : (xs.map f).any id = xs.any f := by simp [List.any_map]
theorem run_feared_in (x1 : List Lot) (x2 : Lot) : Run K (rd_feared_in P w K) [.fz x1, .fz x2, .any] (.ret (feared x1 x2) []) := by
  refine r_retIs (ev_any ((ev_lcA (ei_seq (Ev.sqT (ev_fz rfl))) (fun x hx => eg_name) (fun x hx => ((ev_sp2 (ea_cons (ev_fz rfl) (ea_cons (ev_fz rfl) ea_nil)) True.intro)).ev))).ev) (any_map _ _)
theorem run_lots_in (x1 : Int) (hp : 0 ≤ x1 ∧ x1 ≤ 6) : Run K (rd_lots_in P w K) [.fz x1, .any, .any, .any] (.ret (Lst.mk (lots x1)) []) := by
  refine r_seq (r_setL (ev_lst (eal_cons (ev_tup (eal_nil (α := Int))) eal_nil))) ?_
  have len : ∀ pre : List Int, (pre.foldl (fun rows h => rows ++ rows.map fun l => l ++ [h]) [([] : Lot)]).length = 2 ^ pre.length ∧ ∀ l ∈ pre.foldl (fun rows h => rows ++ rows.map fun l => l ++ [h]) [([] : Lot)], l.length ≤ pre.length := by
    refine snoc_ind (by simp) fun pre x ih => ?_
    · rw [List.foldl_append]
      refine ⟨?_, fun l hl => ?_⟩
      · simp only [List.foldl_cons, List.foldl_nil, List.length_append, List.length_map, List.length_singleton]
        rw [ih.1, Nat.pow_succ]
        omega
      · simp only [List.foldl_cons, List.foldl_nil, List.mem_append, List.mem_map] at hl
        rw [List.length_append,
                List.length_singleton]
        rcases hl with hl | ⟨l0, hl, rfl⟩
        · exact Nat.le_succ_of_le (ih.2 l hl)
        · rw [List.length_append,
                List.length_singleton]
          exact Nat.succ_le_succ (ih.2 l0 hl)
  have bound : ∀ {pre post : List Int} {x : Int}, rng 0 x1.toNat = pre ++ x :: post → pre.length ≤ 5 := fun {pre post x} e => by
    have := congrArg List.length e
    rw [rng_len, List.length_append, List.length_cons] at this
    omega
  refine r_seq (r_forN (S := fun pre => [.fz x1, .ol (pre.foldl (fun rows h => rows ++ rows.map fun l => l ++ [h]) [([] : Lot)]), .any, .any]) (ef_rng1 (ev_fz rfl) (by omega)) (by trivial) (fun pre x => eg_name) (fun pre x post e => ?_)) ?_
  · have h1 := len pre
    have h2 := bound e
    have h3 : 2 ^ pre.length ≤ 2 ^ 5 := Nat.pow_le_pow_right (by decide) h2
    rw [List.foldl_append]
    refine r_le (r_setL (ev_addL (ev_ow rfl) ((ev_lcA (ei_seq (Ev.sqL (ev_ow rfl))) (fun x hx => eg_name) (fun l hx => (ev_addT (ev_fz rfl) (ev_tup (eal_cons (ev_fz rfl) eal_nil)) ?_)))).ev ?_)) (by trivial)
    · have := h1.2 l hx
      show l.length + 1 ≤ LIM
      unfold LIM
      omega
    · rw [List.length_map]
      unfold LIM
      omega
  · exact r_retN (ev_sortUT (ev_ow rfl))
end
end Dy
/-! ## Run4 -/
namespace Dy
open PySem L2 PyProof.Rows Mi
local macro_rules | `(tactic| trivial) => `(tactic| (repeat (first | exact Le.stop | apply Le.same | apply Le.drop)); done)
section
variable {P : Program} {w : World} {K : Fg}
theorem run_greatest_in (x1 : Sq Lot) (hp : Few x1.l) : Run K (rd_greatest_in P w K) [.bs x1, .any, .any, .any] (.ret (greatest x1.l) []) := by
  obtain ⟨ls⟩ := x1
  refine r_seq (r_setL (ev_ss (ev_bs rfl) hp)) ?_
  refine r_ifS (et_test (ev_eqU (ev_len (Ev.sqL (ev_ow rfl))) ev_int)) (fun h1 => ?_) (fun h1 => ?_)
  · refine r_seqR (r_retIs (ev_tup (eal_cons (ev_tup (eal_nil (α := Int))) eal_nil)) ?_)
    have e : ssort ls = [] := List.length_eq_zero_iff.mp (by simpa using h1)
    unfold greatest
    rw [if_pos e]
  · refine r_skip (r_retIs (ev_tupL (Ev.sqL ((ev_lc (ei_seq (Ev.sqL (ev_ow rfl))) (fun x hx => eg_name) (fun x hx => (et_not (et_B (ev_any ((ev_lcA (ei_seq (Ev.sqL (ev_ow rfl))) (fun x hx => eg_name) (fun x hx => (ev_andV (ev_neU (α := Lot) (ev_fz rfl) (ev_fz rfl)) (fun _ => ((ev_sp2 (ea_cons (ev_fz rfl) (ea_cons (ev_fz rfl) ea_nil)) True.intro)).ev))))).ev)))) (fun x hx hp => (ev_fz rfl)))).ev)) ?_)
    have e : ¬ ssort ls = [] := fun e => by
      rw [e] at h1
      simp at h1
    unfold greatest
    rw [if_neg e, List.map_id']
    unfold greatestIn
    congr 1
    funext one
    rw [any_map]
theorem blind_len (fs : List Lot) (lot : Lot) : ∀ rows : List Lot, rows.length ≤ (fs.foldl (fun rows f => if within lot f then rows ++ lot.map (less f) else rows ++ [f]) rows).length := by
  induction fs with
  | nil => exact fun _ => Nat.le_refl _
  | cons f fs ih =>
    intro rows
    rw [List.foldl_cons]
    refine Nat.le_trans ?_ (ih _)
    split <;> simp
theorem run_blind_in (x1 : List Lot) (x2 : Lot) (hp : (blindRows x1 x2).length ≤ 62) : Run K (rd_blind_in P w K) [.fz x1, .fz x2, .any, .any, .any, .any] (.ret (blind x1 x2) []) := by
  have pre_le : ∀ {pre post : List Lot} {x : Lot}, x1 = pre ++ x :: post → (blindRows (pre ++ [x]) x2).length ≤ 62 := fun {pre post x} e => by
    refine Nat.le_trans ?_ hp
    have e2 : x1 = (pre ++ [x]) ++ post := by rw [e]; simp
    unfold blindRows
    rw [e2, List.foldl_append (l := pre ++ [x])]
    exact blind_len _ _ _
  refine r_seq (r_setL (ev_lst (eal_nil (α := Lot)))) ?_
  refine r_seq (r_forN (S := fun pre => [.fz x1, .fz x2, .ol (blindRows pre x2), .any, .any, .any]) (ef_tup (ev_fz rfl)) (by trivial) (fun pre x => eg_name) (fun pre x post e => ?_)) ?_
  · have hl := pre_le e
    have e3 : blindRows (pre ++ [x]) x2 = if within x2 x then blindRows pre x2 ++ x2.map (less x) else blindRows pre x2 ++ [x] := by
      unfold blindRows
      rw [List.foldl_append]
      rfl
    rw [e3] at hl ⊢
    refine r_if (et_B ((ev_sp2 (ea_cons (ev_fz rfl) (ea_cons (ev_fz rfl) ea_nil)) True.intro)).ev) (fun h2 => ?_) (fun h2 => ?_)
    · rw [if_pos h2] at hl ⊢
      refine r_le (r_setL (ev_addL (ev_ow rfl) ((ev_lcA (ei_seq (Ev.sqT (ev_fz rfl))) (fun x hx => eg_name) (fun y hx => (ev_tupL (Ev.sqL ((ev_lc (f := fun h => h) (ei_seq (Ev.sqT (ev_fz rfl))) (fun x hx => eg_name) (fun x hx => (et_test (ev_neU (α := Int) (ev_fz rfl) (ev_fz rfl)))) (fun x hx hp => (ev_fz rfl)))).ev))))).ev ?_)) ?_
      · rw [List.length_append, List.length_map] at hl
        rw [List.length_map]
        unfold LIM
        omega
      · have e4 : (x2.map fun y => ((x.filter fun h => !decide (h = y)).map fun h => h)) = x2.map (less x) := by
          simp [less]
        rw [e4]
        trivial
    · have h2' : ¬ within x2 x = true := by rw [h2]; decide
      rw [if_neg h2'] at hl ⊢
      refine r_le (r_app rfl (ev_fz rfl) ?_) (by trivial)
      rw [List.length_append,
              List.length_singleton] at hl
      unfold LIM
      omega
  · exact r_retIs ((ev_sp1 (ea_cons (Ev.sqL (ev_ow rfl)) ea_nil) (Few.len hp))).ev rfl
theorem run_bare_wired (x1 : List Wire) (x2 : Int) : Run K (rd_bare_wired P w K) [.fz x1, .fz x2, .any] (.ret (wired x1 x2) []) := by
  refine r_retIs (ev_tupL (Ev.sqL ((ev_sortUI ((ev_lc (ei_seq (Ev.sqT (ev_fz rfl))) (fun x hx => eg_name) (fun x hx => (et_test (ev_in (ev_fz rfl) (Ev.sqP (ev_fz rfl))))) (fun x hx hp => (ev_if (et_test (ev_eqU (α := Int) (ev_fst (ev_fz rfl)) (ev_fz rfl))) (fun _ => ev_snd (ev_fz rfl)) (fun _ => ev_fst (ev_fz rfl)))))).ev)).ev)) ?_
  rfl
theorem run_bare_between (x1 : List Lot) (x2 x3 : Int) (hp : x1.length ≤ 62) : Run K (rd_bare_between P w K) [.fz x1, .fz x2, .fz x3, .any, .any] (.ret (between x1 x2 x3) []) := by
  refine r_retIs ((ev_sp1 (ea_cons (Ev.sqL ((ev_lcA (ei_seq (Ev.sqT (ev_fz rfl))) (fun x hx => eg_name) (fun x hx => (ev_tupL (Ev.sqL ((ev_lc (f := fun h => h) (ei_seq (Ev.sqT (ev_fz rfl))) (fun x hx => eg_name) (fun x hx => (et_and (et_test (ev_neU (α := Int) (ev_fz rfl) (ev_fz rfl))) (fun _ => (et_test (ev_neU (α := Int) (ev_fz rfl) (ev_fz rfl)))))) (fun x hx hp => (ev_fz rfl)))).ev))))).ev) ea_nil) ?_)).ev ?_
  · exact Few.len (by rw [List.length_map]; exact hp)
  · simp [between]
theorem run_bare_divides (x1 : Int) (x2 : List Wire) (x3 : Lot) (x4 x5 : Int) (hp : 0 ≤ x1 ∧ x1 ≤ 6 ∧ ∀ p ∈ x2, WireOk x1 p) : Run K (rd_bare_divides P w K) [.fz x1, .fz x2, .fz x3, .fz x4, .fz x5, .any] (.ret (divides x1 x2 x3 x4 x5) []) := by
  refine r_retIs (ev_notV (ev_any ((ev_lcA (ei_seq (Ev.sqT ((ev_sp3 (ea_cons (ev_fz rfl) (ea_cons (ev_fz rfl) (ea_cons (ev_fz rfl) ea_nil))) hp)).ev)) (fun x hx => eg_name) (fun x hx => (ev_andV (ev_in (ev_fz rfl) (Ev.sqT (ev_fz rfl))) (fun _ => (ev_in (ev_fz rfl) (Ev.sqT (ev_fz rfl)))))))).ev)) ?_
  rw [any_map]
  rfl
theorem run_ground_fits (x1 : List Int × List Lot) (hp : GroundOk x1) (hl : x1.2.length ≤ 100) : Run K (rd_ground_fits P w K) [.fz x1] (.ret true []) := by
  refine r_ifS (et_or (et_not (et_B (ev_isiP (b := true) (ev_fz rfl) (by decide +kernel)))) (fun _ => (et_test (ev_neU (ev_len2 (ev_fz rfl)) ev_int)))) (fun h1 => ?_) (fun h1 => ?_)
  · simp at h1
  · exact r_skip (r_retIs (ev_andV ((ev_sp1 (ea_cons (ev_fst (ev_fz rfl)) ea_nil) hp.1)).ev (fun _ => ((ev_sp2 (ea_cons (ev_len (Ev.sqT (ev_fst (ev_fz rfl)))) (ea_cons (ev_snd (ev_fz rfl)) ea_nil)) ⟨hp.2.2, hl⟩)).ev)) rfl)
end
end Dy
/-! ## F1 -/
namespace Mi
open Dy
theorem mem_mesh {m : Int} {p : Wire} (h0 : 0 ≤ m) : p ∈ mesh m ↔ WireOk m p := by
  unfold mesh WireOk
  rw [List.mem_flatMap]
  constructor
  · rintro ⟨a, ha, hp⟩
    obtain ⟨b, hb, e⟩ := List.mem_map.mp hp
    have h1 := mem_rng.mp ha
    have h2 := mem_rng.mp hb
    subst e
    show 0 ≤ a ∧ a < b ∧ b < m
    omega
  · intro h
    exact ⟨p.1, mem_rng.mpr (by omega), List.mem_map.mpr ⟨p.2, mem_rng.mpr (by omega), rfl⟩⟩
theorem lt_irr (a : Lot) : ¬ a < a := List.lt_irrefl a
theorem net_nodup {m : Int} {net : List Wire} (h : NetOk m net) : net.Nodup := h.2.imp fun {a b} z => show a ≠ b from fun e => lt_irr (pl a) (by rw [← e] at z; exact z)
theorem wire_mono {m n : Int} {p : Wire} (h : WireOk m p) (hn : m ≤ n) : WireOk n p := ⟨h.1, h.2.1, Int.lt_of_lt_of_le h.2.2 hn⟩
theorem net_len {m : Int} {net : List Wire} (h : NetOk m net) (hm : m ≤ 6) : net.length ≤ 15 := by
  have z := List.Nodup.length_le_of_subset (net_nodup h) (l₂ := mesh 6) fun p hp => (mem_mesh (by decide)).mpr (wire_mono (h.1 p hp) hm)
  have e : (mesh 6).length = 15 := by decide +kernel
  omega
theorem markStep_len (lot : Lot) (ms : List Int) (w : Wire) : (markStep lot ms w).length = ms.length := by
  unfold markStep
  split <;> simp
theorem marks_len (lot : Lot) (net : List Wire) : ∀ ms : List Int, (net.foldl (markStep lot) ms).length = ms.length := by
  induction net with
  | nil => exact fun _ => rfl
  | cons w net ih =>
    intro ms
    rw [List.foldl_cons, ih, markStep_len]
theorem mem_others {m : Int} {lot : Lot} {x : Int} : x ∈ others m lot ↔ (0 ≤ x ∧ x < m) ∧ x ∉ lot := by
  unfold others
  rw [List.mem_filter, mem_rng]
  simp only [Bool.not_eq_true',
          decide_eq_false_iff_not]
  constructor
  · intro h
    exact ⟨⟨h.1.1, by omega⟩, h.2⟩
  · intro h
    exact ⟨⟨h.1.1, by omega⟩, h.2⟩
end Mi
namespace Mi
open Dy
theorem markStep_range {lot : Lot} {ms : List Int} {w : Wire} {m : Int} (h : ∀ k ∈ ms, 0 ≤ k ∧ k < m) (hw : 0 ≤ w.1 ∧ w.1 < (ms.length : Int)) : ∀ k ∈ markStep lot ms w, 0 ≤ k ∧ k < m := by
  unfold markStep
  split
  · intro k hk
    obtain ⟨j, hj, e⟩ := List.mem_map.mp hk
    split at e
    · rw [← e]
      unfold at'
      have hl : w.1.toNat < ms.length := by omega
      rw [List.getD_eq_getElem?_getD, List.getElem?_eq_getElem hl]
      exact h _ (List.getElem_mem hl)
    · rw [← e]
      exact h j hj
  · exact h
theorem marks_range {lot : Lot} {m : Int} : ∀ {net : List Wire} {ms : List Int}, (∀ k ∈ ms, 0 ≤ k ∧ k < m) → (ms.length : Int) = m → (∀ p ∈ net, WireOk m p) → ∀ k ∈ net.foldl (markStep lot) ms, 0 ≤ k ∧ k < m
  | [], _, h, _, _ => h
  | w :: net, ms, h, hl, hw => by
    have z := hw w (List.mem_cons_self ..)
    rw [List.foldl_cons]
    exact marks_range (net := net) (markStep_range h ⟨z.1, by have := z.2.1; have := z.2.2; omega⟩) (by rw [markStep_len]; exact hl) fun p hp => hw p (List.mem_cons_of_mem _ hp)
theorem at_mem {ms : List Int} {i : Int} (h : 0 ≤ i ∧ i < (ms.length : Int)) : at' ms i ∈ ms := by
  unfold at'
  have hl : i.toNat < ms.length := by omega
  rw [List.getD_eq_getElem?_getD, List.getElem?_eq_getElem hl]
  exact List.getElem_mem hl
theorem mem_sides {m : Int} {net : List Wire} {lot s : Lot} : s ∈ sides m net lot ↔ ∃ k, (0 ≤ k ∧ k < m) ∧ s = sideOf m (marks m net lot) lot k ∧ s ≠ [] := by
  unfold sides
  rw [mem_sortT, List.mem_filter, List.mem_map]
  constructor
  · rintro ⟨⟨k, hk, e⟩, h⟩
    have := mem_rng.mp hk
    refine ⟨k, by omega, e.symm, fun z => ?_⟩
    rw [z] at h
    simp at h
  · rintro ⟨k, hk, e, h⟩
    refine ⟨⟨k, mem_rng.mpr (by omega), e.symm⟩, ?_⟩
    have := List.length_pos_iff.mpr h
    exact decide_eq_true
            (by omega)
theorem mem_sideOf {m : Int} {ms : List Int} {lot : Lot} {k x : Int} : x ∈ sideOf m ms lot k ↔ x ∈ others m lot ∧ at' ms x = k := by
  unfold sideOf
  rw [List.mem_filter, decide_eq_true_eq]
/-- each house outside is on a side -/
theorem side_of {m : Int} {net : List Wire} {lot : Lot} {a : Int} (hw : ∀ p ∈ net, WireOk m p) (ha : a ∈ others m lot) : ∃ s ∈ sides m net lot, a ∈ s := by
  have h1 := (mem_others.mp ha).1
  have e : a ∈ sideOf m (marks m net lot) lot (at' (marks m net lot) a) := mem_sideOf.mpr ⟨ha, rfl⟩
  have hl : (((rng 0 m.toNat).length : Nat) : Int) = m := by
    rw [rng_len]
    omega
  have hl2 : ((marks m net lot).length : Int) = m := by
    unfold marks
    rw [marks_len]
    exact hl
  have hr : ∀ k ∈ marks m net lot, 0 ≤ k ∧ k < m := marks_range (lot := lot) (net := net) (ms := rng 0 m.toNat) (m := m) (fun k hk => by have := mem_rng.mp hk; omega) hl hw
  exact ⟨_, mem_sides.mpr ⟨_, hr _ (at_mem (by omega)), rfl, fun z => by rw [z] at e; exact (List.not_mem_nil e).elim⟩, e⟩
end Mi
/-! ## Tm3 -/
namespace Dy
open PySem L2 PyProof.Rows
section
variable {P : Program} {w : World} {K : Fg} {mg : Str → Option Value} {base : Heap} {f : Addr}

def rd_feared_too (P : Program) (w : World) (K : Fg) : TS := (tSeq (tDrop (tCall (sp_a_want K) [] E0 (tCons (tCall (sp_ground_fits K) [] E0 (tCons (tVar 0) tNil)) (tCons (tC (.str "ground")) tNil)))) (tSeq (tDrop (tCall (sp_a_want K) [] E0 (tCons (tCall (sp_lot_fits K) [] E0 (tCons (tCB (rLenQ K) (tCons (tOp (rIxU K) (tVar 0) (tC (.int 0))) tNil)) (tCons (tVar 1) tNil))) (tCons (tC (.str "lot")) tNil)))) (tRet (tTup (tCons (tOp (rIxU K) (tVar 0) (tC (.int 0))) (tCons (tCall (sp_greatest_in K) [] E0 (tCons (tOp (rAddU K) (tOp (rIxU K) (tVar 0) (tC (.int 1))) (tTup (tCons (tVar 1) tNil))) tNil)) tNil))))))
theorem sc_feared_too : FnScope ["ground", "lot"] ["ground", "lot"] (defScope Hd.s_feared_too) := ⟨rfl, rfl, rfl, by decide +kernel, rfl, by decide +kernel, by decide +kernel⟩
theorem tm_feared_too (T : Hd.Tx K mg) (c_greatest_in : Cal P w K mg base 2 "greatest_in" ["lots"] (sp_greatest_in K)) (c_lot_fits : Cal P w K mg base 4 "lot_fits" ["many", "thing"] (sp_lot_fits K)) (c_a_want : Cal P w K mg base 1 "a_want" ["good", "word"] (sp_a_want K)) (c_ground_fits : Cal P w K mg base 7 "ground_fits" ["thing"] (sp_ground_fits K)) : BodyOk P w K mg base ["ground", "lot"] "feared_too" Hd.s_feared_too f 7 (fun t => t = rd_feared_too P w K) :=
  fun cdv A outer s H E hr => ⟨_, (pss_cons (ps_expr (pc c_a_want (hr.mono (by decide)) rfl (pa_cons (pc c_ground_fits (hr.mono (by decide)) rfl (pa_cons (pv 0) pa_nil)) (pa_cons pe_str pa_nil)))) (pss_cons (ps_expr (pc c_a_want (hr.mono (by decide)) rfl (pa_cons (pc c_lot_fits (hr.mono (by decide)) rfl (pa_cons (pe_callB call_lenQ (by rfl) T.b_len PySem.boot_len (pa_cons (pe_ix ix_U (pv 0) pe_int (fun _ _ => rfl)) pa_nil)) (pa_cons (pv 1) pa_nil))) (pa_cons pe_str pa_nil)))) (pss_one (ps_ret (pe_tup (pa_cons (pe_ix ix_U (pv 0) pe_int (fun _ _ => rfl)) (pa_cons (pc c_greatest_in (hr.mono (by decide)) rfl (pa_cons (pe_op op_addU (pe_ix ix_U (pv 0) pe_int (fun _ _ => rfl)) (pe_tup (pa_cons (pv 1) pa_nil))) pa_nil)) pa_nil))))))), rfl⟩
def rd_calmed (P : Program) (w : World) (K : Fg) : TS := (tSeq (tDrop (tCall (sp_a_want K) [] E0 (tCons (tCall (sp_ground_fits K) [] E0 (tCons (tVar 0) tNil)) (tCons (tC (.str "ground")) tNil)))) (tSeq (tDrop (tCall (sp_a_want K) [] E0 (tCons (tAndV (tCall (sp_lot_fits K) [] E0 (tCons (tCB (rLenQ K) (tCons (tOp (rIxU K) (tVar 0) (tC (.int 0))) tNil)) (tCons (tVar 1) tNil))) (tOp (rI0 fun i j => V.bl (decide (j < i))) (tCB (rLenQ K) (tCons (tVar 1) tNil)) (tC (.int 0)))) (tCons (tC (.str "lot")) tNil)))) (tRet (tTup (tCons (tOp (rIxU K) (tVar 0) (tC (.int 0))) (tCons (tCall (sp_blind_in K) [] E0 (tCons (tOp (rIxU K) (tVar 0) (tC (.int 1))) (tCons (tVar 1) tNil))) tNil))))))
theorem sc_calmed : FnScope ["ground", "lot"] ["ground", "lot"] (defScope Hd.s_calmed) := ⟨rfl, rfl, rfl, by decide +kernel, rfl, by decide +kernel, by decide +kernel⟩
theorem tm_calmed (T : Hd.Tx K mg) (c_blind_in : Cal P w K mg base 3 "blind_in" ["fears", "lot"] (sp_blind_in K)) (c_lot_fits : Cal P w K mg base 4 "lot_fits" ["many", "thing"] (sp_lot_fits K)) (c_a_want : Cal P w K mg base 1 "a_want" ["good", "word"] (sp_a_want K)) (c_ground_fits : Cal P w K mg base 7 "ground_fits" ["thing"] (sp_ground_fits K)) : BodyOk P w K mg base ["ground", "lot"] "calmed" Hd.s_calmed f 7 (fun t => t = rd_calmed P w K) :=
  fun cdv A outer s H E hr => ⟨_, (pss_cons (ps_expr (pc c_a_want (hr.mono (by decide)) rfl (pa_cons (pc c_ground_fits (hr.mono (by decide)) rfl (pa_cons (pv 0) pa_nil)) (pa_cons pe_str pa_nil)))) (pss_cons (ps_expr (pc c_a_want (hr.mono (by decide)) rfl (pa_cons (pe_and (pc c_lot_fits (hr.mono (by decide)) rfl (pa_cons (pe_callB call_lenQ (by rfl) T.b_len PySem.boot_len (pa_cons (pe_ix ix_U (pv 0) pe_int (fun _ _ => rfl)) pa_nil)) (pa_cons (pv 1) pa_nil))) (pe_one (pe_cmpR op_gt (pe_callB call_lenQ (by rfl) T.b_len PySem.boot_len (pa_cons (pv 1) pa_nil)) pe_int (nomark _)))) (pa_cons pe_str pa_nil)))) (pss_one (ps_ret (pe_tup (pa_cons (pe_ix ix_U (pv 0) pe_int (fun _ _ => rfl)) (pa_cons (pc c_blind_in (hr.mono (by decide)) rfl (pa_cons (pe_ix ix_U (pv 0) pe_int (fun _ _ => rfl)) (pa_cons (pv 1) pa_nil))) pa_nil))))))), rfl⟩
def rd_left_in (P : Program) (w : World) (K : Fg) : TS := (tSeq (tAsg (tVar 0) (gTup K 2 (gCons (gName 2) (gCons (gName 3) gNil)))) (tSeq (tAsg (tLst tNil) (gName 4)) (tSeq (tFor (iSeq K (tVar 3)) (gName 5) (tDrop (tBM K "list" rAppend (tVar 4) (tCons (tCB (rTupQ K) (tCons (tLc (iSeq K (tVar 5)) (gName 6) (tTest (tOp (rNeU K) (tVar 6) (tVar 1))) (tOp (rI0 fun i j => V.int (i - j)) (tVar 6) (tCB (rIntQ) (tCons (tOp (rI0 fun i j => V.bl (decide (j < i))) (tVar 6) (tVar 1)) tNil))) [6]) tNil)) tNil)))) (tRet (tTup (tCons (tOp (rAddU K) (tSl (rSlU K) (tVar 2) tNoPart (tPart (tVar 1))) (tSl (rSlU K) (tVar 2) (tPart (tOp (rAddU K) (tVar 1) (tC (.int 1)))) tNoPart)) (tCons (tCall (sp_greatest_in K) [] E0 (tCons (tVar 4) tNil)) tNil)))))))
theorem sc_left_in : FnScope ["ground", "house", "sizes", "fears", "rows", "fear", "near"] ["ground", "house"] (defScope Hd.s_left_in) := ⟨rfl, rfl, rfl, by decide +kernel, rfl, by decide +kernel, by decide +kernel⟩
theorem tm_left_in (T : Hd.Tx K mg) (c_greatest_in : Cal P w K mg base 2 "greatest_in" ["lots"] (sp_greatest_in K)) : BodyOk P w K mg base ["ground", "house", "sizes", "fears", "rows", "fear", "near"] "left_in" Hd.s_left_in f 2 (fun t => t = rd_left_in P w K) :=
  fun cdv A outer s H E hr => ⟨_, (pss_cons (ps_asg (pv 0) (pg_tup (by rfl) (pgs_cons (pg_name (i := 2) sc_left_in.nd rfl (Or.inl rfl)) (pgs_cons (pg_name (i := 3) sc_left_in.nd rfl (Or.inl rfl)) pgs_nil)))) (pss_cons (ps_set (i := 4) sc_left_in.nd rfl (Or.inl rfl) (pe_lst pa_nil)) (pss_cons (ps_for PassesOwn.never rfl (pi_seq (pv 3)) (pg_name (i := 5) sc_left_in.nd rfl (Or.inl rfl)) (pss_one (ps_expr (pe_bm PySem.F.plainAttrs_list PySem.F.slot_list_append PySem.F.type_list_append mt_append (pv 4) (pa_cons (pe_callTy call_tupQ (by rfl) T.b_tuple (by decide +kernel) (pa_cons (pe_lc (own := [("near", 6)]) rfl sc_left_in.nd (pi_seq (pv 5)) (blkOk_by (by kernel_rfl)) (fun _ _ _ _ _ => (pg_name (i := 6) sc_left_in.nd rfl (by first | exact Or.inl rfl | exact Or.inr rfl))) (fun _ _ _ _ _ => (pts_one (pt_cmpR (op_neU hr.units) (pv 6) (pv 1) (nomark _)))) (fun _ _ _ _ _ => (pe_op op_sub (pv 6) (pe_callTy call_intQ (by rfl) T.b_int (by decide +kernel) (pa_cons (pe_cmpR op_gt (pv 6) (pv 1) (nomark _)) pa_nil))))) pa_nil)) pa_nil))))) (pss_one (ps_ret (pe_tup (pa_cons (pe_op op_addU (pe_slice sl_U (pv 2) po_none (po_some (pv 1))) (pe_slice sl_U (pv 2) (po_some (pe_op op_addU (pv 1) pe_int)) po_none)) (pa_cons (pc c_greatest_in (hr.mono (by decide)) rfl (pa_cons (pv 4) pa_nil)) pa_nil)))))))), rfl⟩
def rd_left_out (P : Program) (w : World) (K : Fg) : TS := (tSeq (tDrop (tCall (sp_a_want K) [] E0 (tCons (tAndV (tCall (sp_ground_fits K) [] E0 (tCons (tVar 0) tNil)) (tOp (rI0 fun i j => V.bl (decide (j < i))) (tCB (rLenQ K) (tCons (tOp (rIxU K) (tVar 0) (tC (.int 0))) tNil)) (tC (.int 1)))) (tCons (tC (.str "ground")) tNil)))) (tSeq (tDrop (tCall (sp_a_want K) [] E0 (tCons (tCall (sp_house_fits K) [] E0 (tCons (tCB (rLenQ K) (tCons (tOp (rIxU K) (tVar 0) (tC (.int 0))) tNil)) (tCons (tVar 1) tNil))) (tCons (tC (.str "house")) tNil)))) (tRet (tCall (sp_left_in K) [] E0 (tCons (tVar 0) (tCons (tVar 1) tNil))))))
theorem sc_left_out : FnScope ["ground", "house"] ["ground", "house"] (defScope Hd.s_left_out) := ⟨rfl, rfl, rfl, by decide +kernel, rfl, by decide +kernel, by decide +kernel⟩
theorem tm_left_out (T : Hd.Tx K mg) (c_left_in : Cal P w K mg base 3 "left_in" ["ground", "house"] (sp_left_in K)) (c_house_fits : Cal P w K mg base 3 "house_fits" ["many", "thing"] (sp_house_fits K)) (c_a_want : Cal P w K mg base 1 "a_want" ["good", "word"] (sp_a_want K)) (c_ground_fits : Cal P w K mg base 7 "ground_fits" ["thing"] (sp_ground_fits K)) : BodyOk P w K mg base ["ground", "house"] "left_out" Hd.s_left_out f 7 (fun t => t = rd_left_out P w K) :=
  fun cdv A outer s H E hr => ⟨_, (pss_cons (ps_expr (pc c_a_want (hr.mono (by decide)) rfl (pa_cons (pe_and (pc c_ground_fits (hr.mono (by decide)) rfl (pa_cons (pv 0) pa_nil)) (pe_one (pe_cmpR op_gt (pe_callB call_lenQ (by rfl) T.b_len PySem.boot_len (pa_cons (pe_ix ix_U (pv 0) pe_int (fun _ _ => rfl)) pa_nil)) pe_int (nomark _)))) (pa_cons pe_str pa_nil)))) (pss_cons (ps_expr (pc c_a_want (hr.mono (by decide)) rfl (pa_cons (pc c_house_fits (hr.mono (by decide)) rfl (pa_cons (pe_callB call_lenQ (by rfl) T.b_len PySem.boot_len (pa_cons (pe_ix ix_U (pv 0) pe_int (fun _ _ => rfl)) pa_nil)) (pa_cons (pv 1) pa_nil))) (pa_cons pe_str pa_nil)))) (pss_one (ps_ret (pc c_left_in (hr.mono (by decide)) rfl (pa_cons (pv 0) (pa_cons (pv 1) pa_nil))))))), rfl⟩
def rd_secret_paper (P : Program) (w : World) (K : Fg) : TS := (tSeq (tDrop (tCall (sp_a_want K) [] E0 (tCons (tCall (sp_many_fits K) [] E0 (tCons (tVar 0) tNil)) (tCons (tC (.str "many")) tNil)))) (tSeq (tDrop (tCall (sp_a_want K) [] E0 (tCons (tCall (sp_net_fits K) [] E0 (tCons (tVar 0) (tCons (tVar 1) tNil))) (tCons (tC (.str "net")) tNil)))) (tSeq (tAsg (tCall (sp_between_lots K) [] E0 (tCons (tVar 0) (tCons (tVar 2) (tCons (tVar 3) (tCons (tVar 4) tNil))))) (gName 5)) (tSeq (tAsg (tLst tNil) (gName 6)) (tSeq (tFor (iSeq K (tVar 5)) (gName 7) (tSeq (tAsg (tCall (sp_bare_way K) [] E0 (tCons (tVar 1) (tCons (tVar 7) (tCons (tVar 3) (tCons (tVar 4) tNil))))) (gName 8)) (tSeq (tIfS (tTest (tOp (rIsU) (tVar 8) (tC .non))) (tSeq (tAsg (tOp (rIxU K) (tLc (iSeq K (tCall (sp_bare_sides K) [] E0 (tCons (tVar 0) (tCons (tVar 1) (tCons (tVar 7) tNil))))) (gName 9) (tTest (tOp (rInU K false) (tVar 3) (tVar 9))) (tVar 9) [9]) (tC (.int 0))) (gName 9)) (tRet (tTup (tCons (tC (.str "divided")) (tCons (tVar 7) (tCons (tVar 9) tNil)))))) tNext) (tDrop (tBM K "list" rAppend (tVar 6) (tCons (tVar 8) tNil)))))) (tRet (tTup (tCons (tC (.str "ways")) (tCons (tCB (rTupQ K) (tCons (tVar 6) tNil)) tNil)))))))))
theorem sc_secret_paper : FnScope ["many", "net", "fears", "one", "other", "lots", "ways", "lot", "way", "side"] ["many", "net", "fears", "one", "other"] (defScope Hd.s_secret_paper) := ⟨rfl, rfl, rfl, by decide +kernel, rfl, by decide +kernel, by decide +kernel⟩
theorem tm_secret_paper (T : Hd.Tx K mg) (c_bare_sides : Cal P w K mg base 2 "bare_sides" ["many", "net", "lot"] (sp_bare_sides K)) (c_bare_way : Cal P w K mg base 2 "bare_way" ["net", "lot", "one", "other"] (sp_bare_way K)) (c_between_lots : Cal P w K mg base 7 "between_lots" ["many", "fears", "one", "other"] (sp_between_lots K)) (c_net_fits : Cal P w K mg base 5 "net_fits" ["many", "thing"] (sp_net_fits K)) (c_a_want : Cal P w K mg base 1 "a_want" ["good", "word"] (sp_a_want K)) (c_many_fits : Cal P w K mg base 2 "many_fits" ["thing"] (sp_many_fits K)) : BodyOk P w K mg base ["many", "net", "fears", "one", "other", "lots", "ways", "lot", "way", "side"] "secret_paper" Hd.s_secret_paper f 7 (fun t => t = rd_secret_paper P w K) :=
  fun cdv A outer s H E hr => ⟨_, (pss_cons (ps_expr (pc c_a_want (hr.mono (by decide)) rfl (pa_cons (pc c_many_fits (hr.mono (by decide)) rfl (pa_cons (pv 0) pa_nil)) (pa_cons pe_str pa_nil)))) (pss_cons (ps_expr (pc c_a_want (hr.mono (by decide)) rfl (pa_cons (pc c_net_fits (hr.mono (by decide)) rfl (pa_cons (pv 0) (pa_cons (pv 1) pa_nil))) (pa_cons pe_str pa_nil)))) (pss_cons (ps_set (i := 5) sc_secret_paper.nd rfl (Or.inl rfl) (pc c_between_lots (hr.mono (by decide)) rfl (pa_cons (pv 0) (pa_cons (pv 2) (pa_cons (pv 3) (pa_cons (pv 4) pa_nil)))))) (pss_cons (ps_set (i := 6) sc_secret_paper.nd rfl (Or.inl rfl) (pe_lst pa_nil)) (pss_cons (ps_for PassesOwn.never rfl (pi_seq (pv 5)) (pg_name (i := 7) sc_secret_paper.nd rfl (Or.inl rfl)) (pss_cons (ps_set (i := 8) sc_secret_paper.nd rfl (Or.inl rfl) (pc c_bare_way (hr.mono (by decide)) rfl (pa_cons (pv 1) (pa_cons (pv 7) (pa_cons (pv 3) (pa_cons (pv 4) pa_nil)))))) (pss_cons (ps_if (pt_cmpR op_isU (pv 8) pe_non (nomark _)) (pss_cons (ps_set (i := 9) sc_secret_paper.nd rfl (Or.inl rfl) (pe_ix ix_U (pe_lc (own := [("side", 9)]) rfl sc_secret_paper.nd (pi_seq (pc c_bare_sides (hr.mono (by decide)) rfl (pa_cons (pv 0) (pa_cons (pv 1) (pa_cons (pv 7) pa_nil))))) (blkOk_by (by kernel_rfl)) (fun _ _ _ _ _ => (pg_name (i := 9) sc_secret_paper.nd rfl (by first | exact Or.inl rfl | exact Or.inr rfl))) (fun _ _ _ _ _ => (pts_one (pt_cmpR (op_inU (units65 hr)) (pv 3) (pv 9) (by rfl)))) (fun _ _ _ _ _ => (pv 9))) pe_int (fun _ _ => rfl))) (pss_one (ps_ret (pe_tup (pa_cons pe_str (pa_cons (pv 7) (pa_cons (pv 9) pa_nil))))))) pss_nil) (pss_one (ps_expr (pe_bm PySem.F.plainAttrs_list PySem.F.slot_list_append PySem.F.type_list_append mt_append (pv 6) (pa_cons (pv 8) pa_nil))))))) (pss_one (ps_ret (pe_tup (pa_cons pe_str (pa_cons (pe_callTy call_tupQ (by rfl) T.b_tuple (by decide +kernel) (pa_cons (pv 6) pa_nil)) pa_nil)))))))))), rfl⟩
def rd_can_send (P : Program) (w : World) (K : Fg) : TS := (tRet (tOp (rEqU K) (tOp (rIxU K) (tCall (sp_secret_paper K) [] E0 (tCons (tVar 0) (tCons (tVar 1) (tCons (tVar 2) (tCons (tVar 3) (tCons (tVar 4) tNil)))))) (tC (.int 0))) (tC (.str "ways"))))
theorem sc_can_send : FnScope ["many", "net", "fears", "one", "other"] ["many", "net", "fears", "one", "other"] (defScope Hd.s_can_send) := ⟨rfl, rfl, rfl, by decide +kernel, rfl, by decide +kernel, by decide +kernel⟩
theorem tm_can_send (T : Hd.Tx K mg) (c_secret_paper : Cal P w K mg base 8 "secret_paper" ["many", "net", "fears", "one", "other"] (sp_secret_paper K)) : BodyOk P w K mg base ["many", "net", "fears", "one", "other"] "can_send" Hd.s_can_send f 8 (fun t => t = rd_can_send P w K) :=
  fun cdv A outer s H E hr => ⟨_, (pss_one (ps_ret (pe_cmpR (op_eqU hr.units) (pe_ix ix_U (pc c_secret_paper (hr.mono (by decide)) rfl (pa_cons (pv 0) (pa_cons (pv 1) (pa_cons (pv 2) (pa_cons (pv 3) (pa_cons (pv 4) pa_nil)))))) pe_int (fun _ _ => rfl)) pe_str (nomark _)))), rfl⟩
def rd__law_within (P : Program) (w : World) (K : Fg) : TS := (tRet (tCB (rAll K) (tCons (tLc (iSeq K (tVar 0)) (gName 2) tYes (tOp (rInU K false) (tVar 2) (tVar 1)) [2]) tNil)))
theorem sc__law_within : FnScope ["_law_lot", "_law_wide", "_law_house"] ["_law_lot", "_law_wide"] (defScope Hd.s__law_within) := ⟨rfl, rfl, rfl, by decide +kernel, rfl, by decide +kernel, by decide +kernel⟩
theorem tm__law_within (T : Hd.Tx K mg)  : BodyOk P w K mg base ["_law_lot", "_law_wide", "_law_house"] "_law_within" Hd.s__law_within f 0 (fun t => t = rd__law_within P w K) :=
  fun cdv A outer s H E hr => ⟨_, (pss_one (ps_ret (pe_callB (cr_all rfl) (by rfl) T.b_all (by decide +kernel) (pa_cons (pe_lc (own := [("_law_house", 2)]) rfl sc__law_within.nd (pi_seq (pv 0)) (blkOk_by (by kernel_rfl)) (fun _ _ _ _ _ => (pg_name (i := 2) sc__law_within.nd rfl (by first | exact Or.inl rfl | exact Or.inr rfl))) (fun _ _ _ _ _ => pts_nil) (fun _ _ _ _ _ => (pe_cmpR (op_inU (units65 hr)) (pv 2) (pv 1) (by rfl)))) pa_nil)))), rfl⟩
def rd__law_others (P : Program) (w : World) (K : Fg) : TS := (tRet (tCB (rTupQ K) (tCons (tLc (iRng1 (tCons (tVar 0) tNil)) (gName 2) (tTest (tOp (rInU K true) (tVar 2) (tVar 1))) (tVar 2) [2]) tNil)))
theorem sc__law_others : FnScope ["_law_many", "_law_lot", "_law_house"] ["_law_many", "_law_lot"] (defScope Hd.s__law_others) := ⟨rfl, rfl, rfl, by decide +kernel, rfl, by decide +kernel, by decide +kernel⟩
theorem tm__law_others (T : Hd.Tx K mg)  : BodyOk P w K mg base ["_law_many", "_law_lot", "_law_house"] "_law_others" Hd.s__law_others f 0 (fun t => t = rd__law_others P w K) :=
  fun cdv A outer s H E hr => ⟨_, (pss_one (ps_ret (pe_callTy call_tupQ (by rfl) T.b_tuple (by decide +kernel) (pa_cons (pe_lc (own := [("_law_house", 2)]) rfl sc__law_others.nd (pi_range1 rfl T.b_range (pa_cons (pv 0) pa_nil)) (blkOk_by (by kernel_rfl)) (fun _ _ _ _ _ => (pg_name (i := 2) sc__law_others.nd rfl (by first | exact Or.inl rfl | exact Or.inr rfl))) (fun _ _ _ _ _ => (pts_one (pt_cmpR (op_notInU (units65 hr)) (pv 2) (pv 1) (by rfl)))) (fun _ _ _ _ _ => (pv 2))) pa_nil)))), rfl⟩
def rd__law_lots (P : Program) (w : World) (K : Fg) : TS := (tSeq (tAsg (tLst (tCons (tTup tNil) tNil)) (gName 1)) (tSeq (tFor (iRng1 (tCons (tVar 0) tNil)) (gName 2) (tAsg (tOp (rAddU K) (tVar 1) (tLc (iSeq K (tVar 1)) (gName 3) tYes (tOp (rAddU K) (tVar 3) (tTup (tCons (tVar 2) tNil))) [3])) (gName 1))) (tRet (tCB (rSortU K) (tCons (tVar 1) tNil)))))
theorem sc__law_lots : FnScope ["_law_many", "_law_lots_here", "_law_house", "_law_lot"] ["_law_many"] (defScope Hd.s__law_lots) := ⟨rfl, rfl, rfl, by decide +kernel, rfl, by decide +kernel, by decide +kernel⟩
theorem tm__law_lots (T : Hd.Tx K mg)  : BodyOk P w K mg base ["_law_many", "_law_lots_here", "_law_house", "_law_lot"] "_law_lots" Hd.s__law_lots f 0 (fun t => t = rd__law_lots P w K) :=
  fun cdv A outer s H E hr => ⟨_, (pss_cons (ps_set (i := 1) sc__law_lots.nd rfl (Or.inl rfl) (pe_lst (pa_cons (pe_tup pa_nil) pa_nil))) (pss_cons (ps_for PassesOwn.never rfl (pi_range1 rfl T.b_range (pa_cons (pv 0) pa_nil)) (pg_name (i := 2) sc__law_lots.nd rfl (Or.inr rfl)) (pss_one (ps_set (i := 1) sc__law_lots.nd rfl (Or.inl rfl) (pe_op op_addU (pv 1) (pe_lc (own := [("_law_lot", 3)]) rfl sc__law_lots.nd (pi_seq (pv 1)) (blkOk_by (by kernel_rfl)) (fun _ _ _ _ _ => (pg_name (i := 3) sc__law_lots.nd rfl (by first | exact Or.inl rfl | exact Or.inr rfl))) (fun _ _ _ _ _ => pts_nil) (fun _ _ _ _ _ => (pe_op op_addU (pv 3) (pe_tup (pa_cons (pv 2) pa_nil))))))))) (pss_one (ps_ret (pe_callB (cr_sortU hr.units) (by rfl) T.b_sorted (by decide +kernel) (pa_cons (pv 1) pa_nil)))))), rfl⟩
def rd__law_greatest (P : Program) (w : World) (K : Fg) : TS := (tSeq (tAsg (tLst tNil) (gName 1)) (tSeq (tFor (iSeq K (tSS K P w (tVar 0))) (gName 2) (tIfS (tNot (tB (tCB (rAny K) (tCons (tLc (iSeq K (tVar 0)) (gName 3) tYes (tAndV (tOp (rNeU K) (tVar 2) (tVar 3)) (tCall (sp__law_within K) [] E0 (tCons (tVar 2) (tCons (tVar 3) tNil)))) [3]) tNil)))) (tDrop (tBM K "list" rAppend (tVar 1) (tCons (tVar 2) tNil))) tNext)) (tRet (tCB (rTupQ K) (tCons (tVar 1) tNil)))))
theorem sc__law_greatest : FnScope ["_law_lots_here", "_law_kept", "_law_lot", "_law_wide"] ["_law_lots_here"] (defScope Hd.s__law_greatest) := ⟨rfl, rfl, rfl, by decide +kernel, rfl, by decide +kernel, by decide +kernel⟩
theorem tm__law_greatest (T : Hd.Tx K mg) (c__law_within : Cal P w K mg base 1 "_law_within" ["_law_lot", "_law_wide"] (sp__law_within K)) : BodyOk P w K mg base ["_law_lots_here", "_law_kept", "_law_lot", "_law_wide"] "_law_greatest" Hd.s__law_greatest f 1 (fun t => t = rd__law_greatest P w K) :=
  fun cdv A outer s H E hr => ⟨_, (pss_cons (ps_set (i := 1) sc__law_greatest.nd rfl (Or.inl rfl) (pe_lst pa_nil)) (pss_cons (ps_for PassesOwn.never rfl (pi_seq (pe_callB (cr_sortSU rfl hr.units) (by rfl) T.b_sorted (by decide +kernel) (pa_cons (pe_callTy (cr_setU rfl hr.units) (by rfl) T.b_set (by decide +kernel) (pa_cons (pv 0) pa_nil)) pa_nil))) (pg_name (i := 2) sc__law_greatest.nd rfl (Or.inr rfl)) (pss_one (ps_if (pt_not (pt_val (pe_callB (cr_any rfl) (by rfl) T.b_any (by decide +kernel) (pa_cons (pe_lc (own := [("_law_wide", 3)]) rfl sc__law_greatest.nd (pi_seq (pv 0)) (blkOk_by (by kernel_rfl)) (fun _ _ _ _ _ => (pg_name (i := 3) sc__law_greatest.nd rfl (by first | exact Or.inl rfl | exact Or.inr rfl))) (fun _ _ _ _ _ => pts_nil) (fun _ _ _ _ _ => (pe_and (pe_cmpR (op_neU hr.units) (pv 2) (pv 3) (nomark _)) (pe_one (pc c__law_within (hr.mono (by decide)) rfl (pa_cons (pv 2) (pa_cons (pv 3) pa_nil))))))) pa_nil)))) (pss_one (ps_expr (pe_bm PySem.F.plainAttrs_list PySem.F.slot_list_append PySem.F.type_list_append mt_append (pv 1) (pa_cons (pv 2) pa_nil)))) pss_nil))) (pss_one (ps_ret (pe_callTy call_tupQ (by rfl) T.b_tuple (by decide +kernel) (pa_cons (pv 1) pa_nil)))))), rfl⟩
def rd__law_feared (P : Program) (w : World) (K : Fg) : TS := (tRet (tLc (iSeq K (tCall (sp__law_lots K) [] E0 (tCons (tVar 0) tNil))) (gName 2) (tB (tCB (rAny K) (tCons (tLc (iSeq K (tVar 1)) (gName 3) tYes (tCall (sp__law_within K) [] E0 (tCons (tVar 2) (tCons (tVar 3) tNil))) [3]) tNil))) (tVar 2) [2]))
theorem sc__law_feared : FnScope ["_law_many", "_law_fears_here", "_law_lot", "_law_wide"] ["_law_many", "_law_fears_here"] (defScope Hd.s__law_feared) := ⟨rfl, rfl, rfl, by decide +kernel, rfl, by decide +kernel, by decide +kernel⟩
theorem tm__law_feared (T : Hd.Tx K mg) (c__law_lots : Cal P w K mg base 1 "_law_lots" ["_law_many"] (sp__law_lots K)) (c__law_within : Cal P w K mg base 1 "_law_within" ["_law_lot", "_law_wide"] (sp__law_within K)) : BodyOk P w K mg base ["_law_many", "_law_fears_here", "_law_lot", "_law_wide"] "_law_feared" Hd.s__law_feared f 1 (fun t => t = rd__law_feared P w K) :=
  fun cdv A outer s H E hr => ⟨_, (pss_one (ps_ret (pe_lc (own := [("_law_lot", 2)]) rfl sc__law_feared.nd (pi_seq (pc c__law_lots (hr.mono (by decide)) rfl (pa_cons (pv 0) pa_nil))) (blkOk_by (by kernel_rfl)) (fun _ _ _ _ _ => (pg_name (i := 2) sc__law_feared.nd rfl (by first | exact Or.inl rfl | exact Or.inr rfl))) (fun _ _ _ _ _ => (pts_one (pt_val (pe_callB (cr_any rfl) (by rfl) T.b_any (by decide +kernel) (pa_cons (pe_lc (own := [("_law_wide", 3)]) rfl sc__law_feared.nd (pi_seq (pv 1)) (blkOk_by (by kernel_rfl)) (fun _ _ _ _ _ => (pg_name (i := 3) sc__law_feared.nd rfl (by first | exact Or.inl rfl | exact Or.inr rfl))) (fun _ _ _ _ _ => pts_nil) (fun _ _ _ _ _ => (pc c__law_within (hr.mono (by decide)) rfl (pa_cons (pv 2) (pa_cons (pv 3) pa_nil))))) pa_nil))))) (fun _ _ _ _ _ => (pv 2))))), rfl⟩
def rd__law_mesh (P : Program) (w : World) (K : Fg) : TS := (tRet (tLc (iSeq K (tCall (sp__law_lots K) [] E0 (tCons (tVar 0) tNil))) (gName 1) (tTest (tOp (rEqU K) (tCB (rLenQ K) (tCons (tVar 1) tNil)) (tC (.int 2)))) (tVar 1) [1]))
theorem sc__law_mesh : FnScope ["_law_many", "_law_lot"] ["_law_many"] (defScope Hd.s__law_mesh) := ⟨rfl, rfl, rfl, by decide +kernel, rfl, by decide +kernel, by decide +kernel⟩
theorem tm__law_mesh (T : Hd.Tx K mg) (c__law_lots : Cal P w K mg base 1 "_law_lots" ["_law_many"] (sp__law_lots K)) : BodyOk P w K mg base ["_law_many", "_law_lot"] "_law_mesh" Hd.s__law_mesh f 1 (fun t => t = rd__law_mesh P w K) :=
  fun cdv A outer s H E hr => ⟨_, (pss_one (ps_ret (pe_lc (own := [("_law_lot", 1)]) rfl sc__law_mesh.nd (pi_seq (pc c__law_lots (hr.mono (by decide)) rfl (pa_cons (pv 0) pa_nil))) (blkOk_by (by kernel_rfl)) (fun _ _ _ _ _ => (pg_name (i := 1) sc__law_mesh.nd rfl (by first | exact Or.inl rfl | exact Or.inr rfl))) (fun _ _ _ _ _ => (pts_one (pt_cmpR (op_eqU hr.units) (pe_callB call_lenQ (by rfl) T.b_len PySem.boot_len (pa_cons (pv 1) pa_nil)) pe_int (nomark _)))) (fun _ _ _ _ _ => (pv 1))))), rfl⟩
def rd__law_joined (P : Program) (w : World) (K : Fg) : TS := (tSeq (tAsg (tLst (tCons (tVar 2) tNil)) (gName 3)) (tSeq (tAsg (tC (.bl true)) (gName 4)) (tSeq (tWhile (tB (tVar 4)) (tSeq (tAsg (tC (.bl false)) (gName 4)) (tFor (iSeq K (tVar 0)) (gName 5) (tFor (iSeq K (tTup (tCons (tC (.int 0)) (tCons (tC (.int 1)) tNil)))) (gName 6) (tSeq (tAsg (tOp (rIxU K) (tVar 5) (tOp (rI0 fun i j => V.int (i - j)) (tC (.int 1)) (tVar 6))) (gName 7)) (tIfS (tAnd (tTest (tOp (rInU K false) (tOp (rIxU K) (tVar 5) (tVar 6)) (tVar 3))) (tAnd (tTest (tOp (rInU K true) (tVar 7) (tVar 3))) (tTest (tOp (rInU K true) (tVar 7) (tVar 1))))) (tSeq (tDrop (tBM K "list" rAppend (tVar 3) (tCons (tVar 7) tNil))) (tAsg (tC (.bl true)) (gName 4))) tNext)))))) (tRet (tVar 3)))))
theorem sc__law_joined : FnScope ["_law_wires", "_law_lot", "_law_house", "_law_near", "_law_grown", "_law_wire", "_law_k", "_law_far"] ["_law_wires", "_law_lot", "_law_house"] (defScope Hd.s__law_joined) := ⟨rfl, rfl, rfl, by decide +kernel, rfl, by decide +kernel, by decide +kernel⟩
theorem tm__law_joined (T : Hd.Tx K mg)  : BodyOk P w K mg base ["_law_wires", "_law_lot", "_law_house", "_law_near", "_law_grown", "_law_wire", "_law_k", "_law_far"] "_law_joined" Hd.s__law_joined f 0 (fun t => t = rd__law_joined P w K) :=
  fun cdv A outer s H E hr => ⟨_, (pss_cons (ps_set (i := 3) sc__law_joined.nd rfl (Or.inl rfl) (pe_lst (pa_cons (pv 2) pa_nil))) (pss_cons (ps_set (i := 4) sc__law_joined.nd rfl (Or.inl rfl) pe_bl) (pss_cons (ps_while PassesOwn.never (pt_val (pv 4)) (pss_cons (ps_set (i := 4) sc__law_joined.nd rfl (Or.inl rfl) pe_bl) (pss_one (ps_for PassesOwn.never rfl (pi_seq (pv 0)) (pg_name (i := 5) sc__law_joined.nd rfl (Or.inl rfl)) (pss_one (ps_for PassesOwn.never rfl (pi_seq (pe_tup (pa_cons pe_int (pa_cons pe_int pa_nil)))) (pg_name (i := 6) sc__law_joined.nd rfl (Or.inl rfl)) (pss_cons (ps_set (i := 7) sc__law_joined.nd rfl (Or.inl rfl) (pe_ix ix_U (pv 5) (pe_op op_sub pe_int (pv 6)) (fun _ _ => rfl))) (pss_one (ps_if (PW.pt (pw_and (pt_cmpR (op_inU (units65 hr)) (pe_ix ix_U (pv 5) (pv 6) (fun _ _ => rfl)) (pv 3) (by rfl)) (pw_and (pt_cmpR (op_notInU (units65 hr)) (pv 7) (pv 3) (by rfl)) (pw_and1 (pt_cmpR (op_notInU (units65 hr)) (pv 7) (pv 1) (by rfl)))))) (pss_cons (ps_expr (pe_bm PySem.F.plainAttrs_list PySem.F.slot_list_append PySem.F.type_list_append mt_append (pv 3) (pa_cons (pv 7) pa_nil))) (pss_one (ps_set (i := 4) sc__law_joined.nd rfl (Or.inl rfl) pe_bl))) pss_nil))))))))) (pss_one (ps_ret (pv 3)))))), rfl⟩
def rd__law_divided (P : Program) (w : World) (K : Fg) : TS := (tSeq (tAsg (tLst tNil) (gName 3)) (tSeq (tFor (iSeq K (tVar 2)) (gName 4) (tSeq (tAsg (tCall (sp__law_others K) [] E0 (tCons (tVar 0) (tCons (tVar 4) tNil))) (gName 5)) (tIfS (tAnd (tTest (tOp (rI0 fun i j => V.bl (decide (j < i))) (tCB (rLenQ K) (tCons (tVar 5) tNil)) (tC (.int 1)))) (tTest (tOp (rI0 fun i j => V.bl (decide (i < j))) (tCB (rLenQ K) (tCons (tCall (sp__law_joined K) [] E0 (tCons (tVar 1) (tCons (tVar 4) (tCons (tOp (rIxU K) (tVar 5) (tC (.int 0))) tNil)))) tNil)) (tCB (rLenQ K) (tCons (tVar 5) tNil))))) (tDrop (tBM K "list" rAppend (tVar 3) (tCons (tVar 4) tNil))) tNext))) (tRet (tVar 3))))
theorem sc__law_divided : FnScope ["_law_many", "_law_wires", "_law_feared_here", "_law_found", "_law_lot", "_law_left_here"] ["_law_many", "_law_wires", "_law_feared_here"] (defScope Hd.s__law_divided) := ⟨rfl, rfl, rfl, by decide +kernel, rfl, by decide +kernel, by decide +kernel⟩
theorem tm__law_divided (T : Hd.Tx K mg) (c__law_joined : Cal P w K mg base 1 "_law_joined" ["_law_wires", "_law_lot", "_law_house"] (sp__law_joined K)) (c__law_others : Cal P w K mg base 1 "_law_others" ["_law_many", "_law_lot"] (sp__law_others K)) : BodyOk P w K mg base ["_law_many", "_law_wires", "_law_feared_here", "_law_found", "_law_lot", "_law_left_here"] "_law_divided" Hd.s__law_divided f 1 (fun t => t = rd__law_divided P w K) :=
  fun cdv A outer s H E hr => ⟨_, (pss_cons (ps_set (i := 3) sc__law_divided.nd rfl (Or.inl rfl) (pe_lst pa_nil)) (pss_cons (ps_for PassesOwn.never rfl (pi_seq (pv 2)) (pg_name (i := 4) sc__law_divided.nd rfl (Or.inl rfl)) (pss_cons (ps_set (i := 5) sc__law_divided.nd rfl (Or.inl rfl) (pc c__law_others (hr.mono (by decide)) rfl (pa_cons (pv 0) (pa_cons (pv 4) pa_nil)))) (pss_one (ps_if (PW.pt (pw_and (pt_cmpR op_gt (pe_callB call_lenQ (by rfl) T.b_len PySem.boot_len (pa_cons (pv 5) pa_nil)) pe_int (nomark _)) (pw_and1 (pt_cmpR op_lt (pe_callB call_lenQ (by rfl) T.b_len PySem.boot_len (pa_cons (pc c__law_joined (hr.mono (by decide)) rfl (pa_cons (pv 1) (pa_cons (pv 4) (pa_cons (pe_ix ix_U (pv 5) pe_int (fun _ _ => rfl)) pa_nil)))) pa_nil)) (pe_callB call_lenQ (by rfl) T.b_len PySem.boot_len (pa_cons (pv 5) pa_nil)) (nomark _))))) (pss_one (ps_expr (pe_bm PySem.F.plainAttrs_list PySem.F.slot_list_append PySem.F.type_list_append mt_append (pv 3) (pa_cons (pv 4) pa_nil)))) pss_nil)))) (pss_one (ps_ret (pv 3))))), rfl⟩
def rd__law_long (P : Program) (w : World) (K : Fg) : TS := (tSeq (tAsg (tLst (tCons (tVar 2) tNil)) (gName 4)) (tSeq (tAsg (tLst (tCons (tVar 2) tNil)) (gName 5)) (tSeq (tAsg (tC (.int 1)) (gName 6)) (tSeq (tWhile (tTest (tOp (rNeU K) (tVar 4) (tLst tNil))) (tSeq (tIfS (tTest (tOp (rInU K false) (tVar 3) (tVar 4))) (tRet (tVar 6)) tNext) (tSeq (tAsg (tLst tNil) (gName 7)) (tSeq (tFor (iSeq K (tVar 0)) (gName 8) (tFor (iSeq K (tTup (tCons (tC (.int 0)) (tCons (tC (.int 1)) tNil)))) (gName 9) (tSeq (tAsg (tOp (rIxU K) (tVar 8) (tOp (rI0 fun i j => V.int (i - j)) (tC (.int 1)) (tVar 9))) (gName 10)) (tIfS (tAnd (tTest (tOp (rInU K false) (tOp (rIxU K) (tVar 8) (tVar 9)) (tVar 4))) (tAnd (tTest (tOp (rInU K true) (tVar 10) (tVar 5))) (tTest (tOp (rInU K true) (tVar 10) (tVar 1))))) (tSeq (tDrop (tBM K "list" rAppend (tVar 7) (tCons (tVar 10) tNil))) (tDrop (tBM K "list" rAppend (tVar 5) (tCons (tVar 10) tNil)))) tNext)))) (tSeq (tAsg (tVar 7) (gName 4)) (tAsg (tOp (rAddU K) (tVar 6) (tC (.int 1))) (gName 6))))))) (tRet (tC (.int 0)))))))
theorem sc__law_long : FnScope ["_law_wires", "_law_lot", "_law_one", "_law_other", "_law_layer", "_law_seen", "_law_many", "_law_ahead", "_law_wire", "_law_k", "_law_far"] ["_law_wires", "_law_lot", "_law_one", "_law_other"] (defScope Hd.s__law_long) := ⟨rfl, rfl, rfl, by decide +kernel, rfl, by decide +kernel, by decide +kernel⟩
theorem tm__law_long (T : Hd.Tx K mg)  : BodyOk P w K mg base ["_law_wires", "_law_lot", "_law_one", "_law_other", "_law_layer", "_law_seen", "_law_many", "_law_ahead", "_law_wire", "_law_k", "_law_far"] "_law_long" Hd.s__law_long f 0 (fun t => t = rd__law_long P w K) :=
  fun cdv A outer s H E hr => ⟨_, (pss_cons (ps_set (i := 4) sc__law_long.nd rfl (Or.inl rfl) (pe_lst (pa_cons (pv 2) pa_nil))) (pss_cons (ps_set (i := 5) sc__law_long.nd rfl (Or.inl rfl) (pe_lst (pa_cons (pv 2) pa_nil))) (pss_cons (ps_set (i := 6) sc__law_long.nd rfl (Or.inl rfl) pe_int) (pss_cons (ps_while PassesOwn.never (pt_cmpR (op_neU hr.units) (pv 4) (pe_lst pa_nil) (nomark _)) (pss_cons (ps_if (pt_cmpR (op_inU (units65 hr)) (pv 3) (pv 4) (by rfl)) (pss_one (ps_ret (pv 6))) pss_nil) (pss_cons (ps_set (i := 7) sc__law_long.nd rfl (Or.inl rfl) (pe_lst pa_nil)) (pss_cons (ps_for PassesOwn.never rfl (pi_seq (pv 0)) (pg_name (i := 8) sc__law_long.nd rfl (Or.inl rfl)) (pss_one (ps_for PassesOwn.never rfl (pi_seq (pe_tup (pa_cons pe_int (pa_cons pe_int pa_nil)))) (pg_name (i := 9) sc__law_long.nd rfl (Or.inl rfl)) (pss_cons (ps_set (i := 10) sc__law_long.nd rfl (Or.inl rfl) (pe_ix ix_U (pv 8) (pe_op op_sub pe_int (pv 9)) (fun _ _ => rfl))) (pss_one (ps_if (PW.pt (pw_and (pt_cmpR (op_inU (units65 hr)) (pe_ix ix_U (pv 8) (pv 9) (fun _ _ => rfl)) (pv 4) (by rfl)) (pw_and (pt_cmpR (op_notInU (units65 hr)) (pv 10) (pv 5) (by rfl)) (pw_and1 (pt_cmpR (op_notInU (units65 hr)) (pv 10) (pv 1) (by rfl)))))) (pss_cons (ps_expr (pe_bm PySem.F.plainAttrs_list PySem.F.slot_list_append PySem.F.type_list_append mt_append (pv 7) (pa_cons (pv 10) pa_nil))) (pss_one (ps_expr (pe_bm PySem.F.plainAttrs_list PySem.F.slot_list_append PySem.F.type_list_append mt_append (pv 5) (pa_cons (pv 10) pa_nil))))) pss_nil)))))) (pss_cons (ps_set (i := 4) sc__law_long.nd rfl (Or.inl rfl) (pv 7)) (pss_one (ps_set (i := 6) sc__law_long.nd rfl (Or.inl rfl) (pe_op op_addU (pv 6) pe_int)))))))) (pss_one (ps_ret pe_int)))))), rfl⟩
def rd__law_between (P : Program) (w : World) (K : Fg) : TS := (tRet (tCall (sp__law_greatest K) [] E0 (tCons (tLc (iSeq K (tVar 0)) (gName 3) (tAnd (tTest (tOp (rInU K true) (tVar 1) (tVar 3))) (tTest (tOp (rInU K true) (tVar 2) (tVar 3)))) (tVar 3) [3]) tNil)))
theorem sc__law_between : FnScope ["_law_feared_here", "_law_one", "_law_other", "_law_lot"] ["_law_feared_here", "_law_one", "_law_other"] (defScope Hd.s__law_between) := ⟨rfl, rfl, rfl, by decide +kernel, rfl, by decide +kernel, by decide +kernel⟩
theorem tm__law_between (T : Hd.Tx K mg) (c__law_greatest : Cal P w K mg base 2 "_law_greatest" ["_law_lots_here"] (sp__law_greatest K)) : BodyOk P w K mg base ["_law_feared_here", "_law_one", "_law_other", "_law_lot"] "_law_between" Hd.s__law_between f 2 (fun t => t = rd__law_between P w K) :=
  fun cdv A outer s H E hr => ⟨_, (pss_one (ps_ret (pc c__law_greatest (hr.mono (by decide)) rfl (pa_cons (pe_lc (own := [("_law_lot", 3)]) rfl sc__law_between.nd (pi_seq (pv 0)) (blkOk_by (by kernel_rfl)) (fun _ _ _ _ _ => (pg_name (i := 3) sc__law_between.nd rfl (by first | exact Or.inl rfl | exact Or.inr rfl))) (fun _ _ _ _ _ => (pts_one (PW.pt (pw_and (pt_cmpR (op_notInU (units65 hr)) (pv 1) (pv 3) (by rfl)) (pw_and1 (pt_cmpR (op_notInU (units65 hr)) (pv 2) (pv 3) (by rfl))))))) (fun _ _ _ _ _ => (pv 3))) pa_nil)))), rfl⟩
def rd__law_is_house (P : Program) (w : World) (K : Fg) : TS := (tRet (tAndV (tCB (rIsi K) (tCons (tVar 0) (tCons (tC (.ty "int")) tNil))) (tAndV (tNotV (tCB (rIsi K) (tCons (tVar 0) (tCons (tC (.ty "bool")) tNil)))) (tAndV (tOp (rLeU K) (tC (.int 0)) (tVar 0)) (tOp (rI0 fun i j => V.bl (decide (i < j))) (tVar 0) (tVar 1))))))
theorem sc__law_is_house : FnScope ["_law_thing", "_law_many"] ["_law_thing", "_law_many"] (defScope Hd.s__law_is_house) := ⟨rfl, rfl, rfl, by decide +kernel, rfl, by decide +kernel, by decide +kernel⟩
theorem tm__law_is_house (T : Hd.Tx K mg)  : BodyOk P w K mg base ["_law_thing", "_law_many"] "_law_is_house" Hd.s__law_is_house f 0 (fun t => t = rd__law_is_house P w K) :=
  fun cdv A outer s H E hr => ⟨_, (pss_one (ps_ret (pe_and (pe_callB call_isi (by rfl) T.b_isinstance (by decide +kernel) (pa_cons (pv 0) (pa_cons (pe_bltn (v := .ty "int") rfl (T.b_int) boot_int rfl) pa_nil))) (pe_and (pe_not (pe_callB call_isi (by rfl) T.b_isinstance (by decide +kernel) (pa_cons (pv 0) (pa_cons (pe_bltn (v := .ty "bool") rfl (T.b_bool) boot_bool rfl) pa_nil)))) (pe_and (pe_cmpR (op_leU hr.units0) pe_int (pv 0) (nomark _)) (pe_one (pe_cmpR op_lt (pv 0) (pv 1) (nomark _)))))))), rfl⟩
def rd__law_anew (P : Program) (w : World) (K : Fg) : TS := (tRet (tCB (rTupQ K) (tCons (tLc (iSeq K (tVar 0)) (gName 3) tYes (tCB (rTupQ K) (tCons (tLc (iSeq K (tVar 3)) (gName 4) tYes (tOp (rI0 fun i j => V.int (i - j)) (tOp (rI0 fun i j => V.int (i - j)) (tVar 4) (tCB (rIntQ) (tCons (tOp (rI0 fun i j => V.bl (decide (j < i))) (tVar 4) (tVar 1)) tNil))) (tCB (rIntQ) (tCons (tOp (rI0 fun i j => V.bl (decide (j < i))) (tVar 4) (tVar 2)) tNil))) [4]) tNil)) [3]) tNil)))
theorem sc__law_anew : FnScope ["_law_lots_here", "_law_one", "_law_other", "_law_lot", "_law_house"] ["_law_lots_here", "_law_one", "_law_other"] (defScope Hd.s__law_anew) := ⟨rfl, rfl, rfl, by decide +kernel, rfl, by decide +kernel, by decide +kernel⟩
theorem tm__law_anew (T : Hd.Tx K mg)  : BodyOk P w K mg base ["_law_lots_here", "_law_one", "_law_other", "_law_lot", "_law_house"] "_law_anew" Hd.s__law_anew f 0 (fun t => t = rd__law_anew P w K) :=
  fun cdv A outer s H E hr => ⟨_, (pss_one (ps_ret (pe_callTy call_tupQ (by rfl) T.b_tuple (by decide +kernel) (pa_cons (pe_lc (own := [("_law_lot", 3)]) rfl sc__law_anew.nd (pi_seq (pv 0)) (blkOk_by (by kernel_rfl)) (fun _ _ _ _ _ => (pg_name (i := 3) sc__law_anew.nd rfl (by first | exact Or.inl rfl | exact Or.inr rfl))) (fun _ _ _ _ _ => pts_nil) (fun _ _ _ _ _ => (pe_callTy call_tupQ (by rfl) T.b_tuple (by decide +kernel) (pa_cons (pe_lc (own := [("_law_house", 4)]) rfl sc__law_anew.nd (pi_seq (pv 3)) (blkOk_by (by kernel_rfl)) (fun _ _ _ _ _ => (pg_name (i := 4) sc__law_anew.nd rfl (by first | exact Or.inl rfl | exact Or.inr rfl))) (fun _ _ _ _ _ => pts_nil) (fun _ _ _ _ _ => (pe_op op_sub (pe_op op_sub (pv 4) (pe_callTy call_intQ (by rfl) T.b_int (by decide +kernel) (pa_cons (pe_cmpR op_gt (pv 4) (pv 1) (nomark _)) pa_nil))) (pe_callTy call_intQ (by rfl) T.b_int (by decide +kernel) (pa_cons (pe_cmpR op_gt (pv 4) (pv 2) (nomark _)) pa_nil))))) pa_nil)))) pa_nil)))), rfl⟩
def rd__law_left (P : Program) (w : World) (K : Fg) : TS := (tSeq (tAsg (tCall (sp_left_out K) [] E0 (tCons (tTup (tCons (tOp (rMulU K) (tTup (tCons (tC (.int 1)) tNil)) (tVar 0)) (tCons (tVar 1) tNil))) (tCons (tCB (rMax K) (tCons (tLst (tCons (tVar 2) (tCons (tVar 3) tNil))) tNil)) tNil))) (gName 4)) (tRet (tOp (rIxU K) (tCall (sp_left_out K) [] E0 (tCons (tVar 4) (tCons (tCB (rMin K) (tCons (tLst (tCons (tVar 2) (tCons (tVar 3) tNil))) tNil)) tNil))) (tC (.int 1)))))
theorem sc__law_left : FnScope ["_law_many", "_law_fears_here", "_law_one", "_law_other", "_law_ground"] ["_law_many", "_law_fears_here", "_law_one", "_law_other"] (defScope Hd.s__law_left) := ⟨rfl, rfl, rfl, by decide +kernel, rfl, by decide +kernel, by decide +kernel⟩
theorem tm__law_left (T : Hd.Tx K mg) (c_left_out : Cal P w K mg base 8 "left_out" ["ground", "house"] (sp_left_out K)) : BodyOk P w K mg base ["_law_many", "_law_fears_here", "_law_one", "_law_other", "_law_ground"] "_law_left" Hd.s__law_left f 8 (fun t => t = rd__law_left P w K) :=
  fun cdv A outer s H E hr => ⟨_, (pss_cons (ps_set (i := 4) sc__law_left.nd rfl (Or.inl rfl) (pc c_left_out (hr.mono (by decide)) rfl (pa_cons (pe_tup (pa_cons (pe_op op_mulU (pe_tup (pa_cons pe_int pa_nil)) (pv 0)) (pa_cons (pv 1) pa_nil))) (pa_cons (pe_callB (cr_max rfl) (by rfl) T.b_max (by decide +kernel) (pa_cons (pe_lst (pa_cons (pv 2) (pa_cons (pv 3) pa_nil))) pa_nil)) pa_nil)))) (pss_one (ps_ret (pe_ix ix_U (pc c_left_out (hr.mono (by decide)) rfl (pa_cons (pv 4) (pa_cons (pe_callB (cr_min rfl) (by rfl) T.b_min (by decide +kernel) (pa_cons (pe_lst (pa_cons (pv 2) (pa_cons (pv 3) pa_nil))) pa_nil)) pa_nil))) pe_int (fun _ _ => rfl))))), rfl⟩
end
end Dy
/-! ## Run5 -/
namespace Dy
open PySem L2 PyProof.Rows Mi
local macro_rules | `(tactic| trivial) => `(tactic| (repeat (first | exact Le.stop | apply Le.same | apply Le.drop)); done)
section
variable {P : Program} {w : World} {K : Fg} {γ : Type} [Enc γ] {Γ : Ctx} {te : TE} {rest : TS} {o : Out γ} {s : Str} {b : Bool}
/-- a_want(good, word), good true -/
theorem r_want (h : Ev K te Γ b) (hb : b = true) (hr : Run K rest Γ o) : Run K (tSeq (tDrop (tCall (sp_a_want K) [] E0 (tCons te (tCons (tC (.str s)) tNil)))) rest) Γ o :=
  r_seq (r_drop ((ev_sp2 (ea_cons h (ea_cons ev_str ea_nil)) hb)).ev) hr
theorem run_bare_sides (x1 : Int) (x2 : List Wire) (x3 : Lot) (hp : 0 ≤ x1 ∧ x1 ≤ 6 ∧ ∀ p ∈ x2, WireOk x1 p) : Run K (rd_bare_sides P w K) [.fz x1, .fz x2, .fz x3, .any, .any, .any, .any, .any, .any, .any, .any, .any, .any] (.ret (sides x1 x2 x3) []) := by
  have ml : ∀ pre : List Wire, (((pre.foldl (markStep x3) (rng 0 x1.toNat)).length : Nat) : Int) = x1 := fun pre => by
    rw [marks_len, rng_len]
    omega
  refine r_seq (r_setL (ev_lstRange (ev_fz rfl) (by omega))) ?_
  refine r_seq (r_forN (S := fun pre => [.fz x1, .fz x2, .fz x3, .ol (pre.foldl (markStep x3) (rng 0 x1.toNat)), .any, .any, .any, .any, .any, .any, .any, .any, .any]) (ef_tup (ev_fz rfl)) (by trivial) (fun pre x => eg_pair) (fun pre x post e => ?_)) ?_
  · have hw := hp.2.2 x (mem_split e)
    have hl := ml pre
    obtain ⟨a, b⟩ := x
    have h1 : 0 ≤ a ∧ a < b ∧ b < x1 := hw
    rw [List.foldl_append]
    show Run K _ _ (.next [.fz x1, .fz x2, .fz x3, .ol (markStep x3 (pre.foldl (markStep x3) (rng 0 x1.toNat)) (a, b)), .any, .any, .any, .any, .any, .any, .any, .any, .any])
    generalize pre.foldl (markStep x3) (rng 0 x1.toNat) = ms at hl ⊢
    unfold markStep
    refine r_if (et_and (et_test (ev_notIn (α := Int) (x := a) (xs := x3) (ev_fz rfl) (Ev.sqT (ev_fz rfl)))) (fun _ => (et_test (ev_notIn (α := Int) (x := b) (xs := x3) (ev_fz rfl) (Ev.sqT (ev_fz rfl)))))) (fun h2 => ?_) (fun h2 => ?_)
    · rw [if_pos h2]
      refine r_seq (r_asg (ev_pair (α := Int) (β := Int) (x := at' ms b) (y := at' ms a) (ev_at (Ev.sqL (ev_ow rfl)) (ev_fz rfl) (by omega)) (ev_at (Ev.sqL (ev_ow rfl)) (ev_fz rfl) (by omega))) eg_pair) ?_
      exact r_le (r_setL (ev_lcA (ei_seq (Ev.sqL (ev_ow rfl))) (fun x hx => eg_name) (fun x hx => (ev_if (et_test (ev_eqU (α := Int) (ev_fz rfl) (ev_fz rfl))) (fun _ => (ev_fz rfl)) (fun _ => (ev_fz rfl)))))) (by trivial)
    · rw [if_neg (by rw [h2]; decide)]
      exact r_le r_next (by trivial)
  refine r_seq (r_set ((ev_sp2 (ea_cons (ev_fz rfl) (ea_cons (ev_fz rfl) ea_nil)) (by omega))).ev) ?_
  have hl := ml x2
  refine r_seq (r_setL (ev_lcA (f := sideOf x1 (marks x1 x2 x3) x3) (ei_rng1 (ev_fz rfl) (by omega)) (fun x hx => eg_name) (fun x hx => (ev_tupL (Ev.sqL ((ev_lc (f := fun h => h) (p := fun h => decide (at' (marks x1 x2 x3) h = x)) (ei_seq (Ev.sqT (ev_fz rfl))) (fun x hx => eg_name) (fun y hy => (et_test (ev_eqU (α := Int) (ev_at (Ev.sqL (ev_ow rfl)) (ev_fz rfl) ?_) (ev_fz rfl)))) (fun x hx hp => (ev_fz rfl)))).ev)).is ?_))) ?_
  · have := mem_others.mp hy
    show 0 ≤ y ∧ y < ((List.foldl (markStep x3) (rng 0 x1.toNat) x2).length : Int)
    omega
  · rw [List.map_id']
    rfl
  · refine r_retIs (ev_tupL (Ev.sqL ((ev_sortUT ((ev_lc (f := fun h => h) (ei_seq (Ev.sqL (ev_ow rfl))) (fun x hx => eg_name) (fun x hx => (et_test (ev_gt (ev_len (Ev.sqT (ev_fz rfl))) ev_int))) (fun x hx hp => (ev_fz rfl)))).ev)).ev)) ?_
    rw [List.map_id']
    rfl
theorem run_left_in (x1 : List Int × List Lot) (x2 : Int) (hp : x1.1.length ≤ 6 ∧ x1.2.length ≤ 31 ∧ 0 ≤ x2 ∧ x2 ≤ 6) : Run K (rd_left_in P w K) [.fz x1, .fz x2, .any, .any, .any, .any, .any] (.ret (leftIn x1 x2) []) := by
  obtain ⟨sz, fs⟩ := x1
  refine r_seq (r_asg (ev_fz rfl) eg_pair) ?_
  refine r_seq (r_setL (ev_lst (eal_nil (α := Lot)))) ?_
  refine r_seq (r_forN (S := fun pre => [.any, .fz x2, .fz sz, .any, .ol (pre.map (leftRow x2)), .any, .any]) (ef_tup (xs := fs) (ev_fz rfl)) (by trivial) (fun pre x => eg_name) (fun pre x post e => ?_)) ?_
  · rw [List.map_append]
    refine r_le (r_app rfl ((ev_tupL (Ev.sqL ((ev_lc (f := fun h => h - if decide (x2 < h) = true then 1 else 0) (ei_seq (Ev.sqT (ev_fz rfl))) (fun x hx => eg_name) (fun x hx => (et_test (ev_neU (α := Int) (ev_fz rfl) (ev_fz rfl)))) (fun x hx hp => (ev_sub (ev_fz rfl) (ev_intB (ev_gt (ev_fz rfl) (ev_fz rfl))))))).ev))) ?_) (by trivial)
    rw [List.length_map]
    have := congrArg List.length e
    rw [List.length_append, List.length_cons] at this
    have h2 : fs.length ≤ 31 := hp.2.1
    unfold LIM
    omega
  · refine r_retIs (ev_pair (ev_addT (ev_sliceT (ev_fz rfl) eo_none (eo_some (ev_fz rfl))) (ev_sliceT (ev_fz rfl) (eo_some (ev_addI (ev_fz rfl) ev_int)) eo_none) ?_) ((ev_sp1 (ea_cons (Ev.sqL (ev_ow rfl)) ea_nil) (Few.len (by rw [List.length_map]; have h2 : fs.length ≤ 31 := hp.2.1; omega)))).ev) rfl
    have h1 := cutX_len sz none (some x2)
    have h2 := cutX_len sz (some (x2 + 1)) none
    have h3 : sz.length ≤ 6 := hp.1
    unfold LIM
    omega
theorem run_left_out (x1 : List Int × List Lot) (x2 : Int) (hp : GroundOk x1 ∧ x1.2.length ≤ 31 ∧ 1 < x1.1.length ∧ 0 ≤ x2 ∧ x2 < x1.1.length) : Run K (rd_left_out P w K) [.fz x1, .fz x2] (.ret (leftIn x1 x2) []) := by
  obtain ⟨h1, h2, h3, h4, h5⟩ := hp
  have h6 := h1.2.1
  refine r_want (ev_andV ((ev_sp1 (ea_cons (ev_fz rfl) ea_nil) ⟨h1, by omega⟩)).ev (fun _ => (ev_gt (ev_len (Ev.sqT (ev_fst (ev_fz rfl)))) ev_int))) (by simp only [Bool.true_and, decide_eq_true_eq]; omega) ?_
  refine r_want (((ev_sp2 (ea_cons (ev_len (Ev.sqT (ev_fst (ev_fz rfl)))) (ea_cons (ev_fz rfl) ea_nil)) True.intro)).ev) (by simpa [inHouse] using ⟨h4, h5⟩) ?_
  exact r_retIs ((ev_sp2 (ea_cons (ev_fz rfl) (ea_cons (ev_fz rfl) ea_nil)) (by omega))).ev rfl
theorem run_feared_too (x1 : List Int × List Lot) (x2 : Lot) (hp : GroundOk x1 ∧ x1.2.length ≤ 31 ∧ LotOk x1.1.length x2) : Run K (rd_feared_too P w K) [.fz x1, .fz x2] (.ret (x1.1, greatest (x1.2 ++ [x2])) []) := by
  obtain ⟨h1, h2, h3⟩ := hp
  refine r_want (((ev_sp1 (ea_cons (ev_fz rfl) ea_nil) ⟨h1, by omega⟩)).ev) rfl ?_
  refine r_want (((ev_sp2 (ea_cons (ev_len (Ev.sqT (ev_fst (ev_fz rfl)))) (ea_cons (ev_fz rfl) ea_nil)) h3)).ev) rfl ?_
  refine r_retIs (ev_pair (ev_fst (ev_fz rfl)) ((ev_sp1 (ea_cons (Ev.sqT (ev_addT (ev_snd (ev_fz rfl)) (ev_tup (eal_cons (ev_fz rfl) eal_nil)) ?_)) ea_nil) ?_)).ev) rfl
  · show x1.2.length + 1 ≤ LIM
    unfold LIM
    omega
  · exact Few.len (by rw [List.length_append, List.length_singleton]; omega)
theorem run_calmed (x1 : List Int × List Lot) (x2 : Lot) (hp : GroundOk x1 ∧ x1.2.length ≤ 100 ∧ (blindRows x1.2 x2).length ≤ 62 ∧ LotOk x1.1.length x2 ∧ x2 ≠ []) : Run K (rd_calmed P w K) [.fz x1, .fz x2] (.ret (x1.1, blind x1.2 x2) []) := by
  obtain ⟨h1, h2, h3, h4, h5⟩ := hp
  refine r_want (((ev_sp1 (ea_cons (ev_fz rfl) ea_nil) ⟨h1, by omega⟩)).ev) rfl ?_
  refine r_want (ev_andV ((ev_sp2 (ea_cons (ev_len (Ev.sqT (ev_fst (ev_fz rfl)))) (ea_cons (ev_fz rfl) ea_nil)) h4)).ev (fun _ => (ev_gt (ev_len (Ev.sqT (ev_fz rfl))) ev_int))) ?_ ?_
  · have := List.length_pos_iff.mpr h5
    simp only [Bool.true_and, decide_eq_true_eq]
    omega
  · exact r_retIs (ev_pair (ev_fst (ev_fz rfl)) ((ev_sp2 (ea_cons (ev_snd (ev_fz rfl)) (ea_cons (ev_fz rfl) ea_nil)) h3)).ev) rfl
theorem many_true {m : Int} (h : ManyOk m) : decide (1 ≤ m) = true := decide_eq_true h.1
theorem run_mesh_of (x1 : Int) (hp : ManyOk x1) : Run K (rd_mesh_of P w K) [.fz x1, .any, .any] (.ret (mesh x1) []) := by
  have h1 := hp.1
  have h2 := hp.2
  refine r_want (((ev_sp1 (ea_cons (ev_fz rfl) ea_nil) True.intro)).ev) (many_true hp) ?_
  refine r_retIs (ev_tupL (Ev.sqL (EvN.ev (ev_lc2 (α := Int) (β := Int) (js := [1]) (js1 := [2]) (ys := fun a => rng (a + 1) (x1 - (a + 1)).toNat) (f := fun a b => (a, b)) (ei_rng1 (ev_fz rfl) (by omega)) (fun x hx => eg_name) (fun x => ?_) (fun x hx => (ez_rng2 (ev_addI (ev_fz rfl) ev_int) (ev_fz rfl) ?_ (by omega))) (fun x y hx hy => eg_name) (fun x y hx hy => (ev_pair (ev_fz rfl) (ev_fz rfl))) ?_)))) rfl
  · exact ⟨True.intro, True.intro, True.intro, True.intro⟩
  · have := mem_rng.mp hx
    omega
  · have nd : (mesh x1).length ≤ 1000 := by
      have : x1 = 1 ∨ x1 = 2 ∨ x1 = 3 ∨ x1 = 4 ∨ x1 = 5 ∨ x1 = 6 := by omega
      rcases this with rfl | rfl | rfl | rfl | rfl | rfl <;> decide +kernel
    exact Nat.le_trans nd (by decide)
theorem run_wired_to (x1 : Int) (x2 : List Wire) (x3 : Int) (hp : Net6 x1 x2 ∧ 0 ≤ x3 ∧ x3 < x1) : Run K (rd_wired_to P w K) [.fz x1, .fz x2, .fz x3] (.ret (wired x2 x3) []) := by
  obtain ⟨⟨h1, h2⟩, h3, h4⟩ := hp
  have h5 := net_len h2 h1.2
  refine r_want (((ev_sp1 (ea_cons (ev_fz rfl) ea_nil) True.intro)).ev) (many_true h1) ?_
  refine r_want (((ev_sp2 (ea_cons (ev_fz rfl) (ea_cons (ev_fz rfl) ea_nil)) ⟨h2, by omega⟩)).ev) rfl ?_
  refine r_want (((ev_sp2 (ea_cons (ev_fz rfl) (ea_cons (ev_fz rfl) ea_nil)) True.intro)).ev) (by simpa [inHouse] using ⟨h3, h4⟩) ?_
  exact r_retIs ((ev_sp2 (ea_cons (ev_fz rfl) (ea_cons (ev_fz rfl) ea_nil)) True.intro)).ev rfl
theorem run_feared_lots (x1 : Int) (x2 : List Lot) (hp : Fear6 x1 x2) : Run K (rd_feared_lots P w K) [.fz x1, .fz x2, .any] (.ret (fearedLots x1 x2) []) := by
  obtain ⟨h1, h2, h3⟩ := hp
  have h4 := h1.1
  have h5 := h1.2
  refine r_want (((ev_sp1 (ea_cons (ev_fz rfl) ea_nil) True.intro)).ev) (many_true h1) ?_
  refine r_want (((ev_sp2 (ea_cons (ev_fz rfl) (ea_cons (ev_fz rfl) ea_nil)) ⟨h2, by omega⟩)).ev) rfl ?_
  have hq : 0 ≤ x1 ∧ x1 ≤ 6 := ⟨by omega, h5⟩
  refine r_retIs (ev_tupL (Ev.sqL (EvN.ev (ev_lc (f := fun h => h) (ei_seq (Ev.sqL (EvN.ev (ev_sp1 (ea_cons (ev_fz rfl) ea_nil) hq)))) (fun x hx => eg_name) (fun x hx => (et_B (EvN.ev (ev_sp2 (ea_cons (ev_fz rfl) (ea_cons (ev_fz rfl) ea_nil)) True.intro)))) (fun x hx hp => (ev_fz rfl)))))) ?_
  rw [List.map_id']
  rfl
end
end Dy
/-! ## Run6 -/
namespace Dy
open PySem L2 PyProof.Rows Mi
local macro_rules | `(tactic| trivial) => `(tactic| (repeat (first | exact Le.stop | apply Le.same | apply Le.drop)); done)
section
variable {P : Program} {w : World} {K : Fg}
theorem net_b {m : Int} {net : List Wire} (h : Net6 m net) : NetOk m net ∧ net.length ≤ 1000 := ⟨h.2, by have := net_len h.2 h.1.2; omega⟩
theorem fear_b {m : Int} {fs : List Lot} (h : Fear6 m fs) : FearsOk m fs ∧ fs.length ≤ 100 := ⟨h.2.1, by have := h.2.2; omega⟩
theorem net_c {m : Int} {net : List Wire} (h : Net6 m net) : 0 ≤ m ∧ m ≤ 6 ∧ ∀ p ∈ net, WireOk m p := ⟨by have := h.1.1; omega, h.1.2, h.2.1⟩
theorem one_b {m a b : Int} (h : PairOk m a b) : inHouse m a = true := by
  obtain ⟨h1, h2, h3, h4, h5⟩ := h
  simp [inHouse, h1, h2]
theorem two_b {m a b : Int} (h : PairOk m a b) : (inHouse m b && !decide (b = a)) = true := by
  obtain ⟨h1, h2, h3, h4, h5⟩ := h
  simp [inHouse, h3, h4, h5]
theorem run_sides_of (x1 : Int) (x2 : List Wire) (x3 : Lot) (hp : Net6 x1 x2 ∧ LotOk x1 x3) : Run K (rd_sides_of P w K) [.fz x1, .fz x2, .fz x3] (.ret (sides x1 x2 x3) []) := by
  refine r_want (EvN.ev (ev_sp1 (ea_cons (ev_fz rfl) ea_nil) True.intro)) (many_true hp.1.1) ?_
  refine r_want (EvN.ev (ev_sp2 (ea_cons (ev_fz rfl) (ea_cons (ev_fz rfl) ea_nil)) (net_b hp.1))) rfl ?_
  refine r_want (EvN.ev (ev_sp2 (ea_cons (ev_fz rfl) (ea_cons (ev_fz rfl) ea_nil)) hp.2)) rfl ?_
  exact r_ret (EvN.ev (ev_sp3 (ea_cons (ev_fz rfl) (ea_cons (ev_fz rfl) (ea_cons (ev_fz rfl) ea_nil))) (net_c hp.1)))
theorem run_divides (x1 : Int) (x2 : List Wire) (x3 : Lot) (x4 x5 : Int) (hp : Net6 x1 x2 ∧ LotOk x1 x3 ∧ PairOk x1 x4 x5 ∧ x4 ∉ x3 ∧ x5 ∉ x3) : Run K (rd_divides P w K) [.fz x1, .fz x2, .fz x3, .fz x4, .fz x5] (.ret (divides x1 x2 x3 x4 x5) []) := by
  obtain ⟨h1, h2, h3, h4, h5⟩ := hp
  refine r_want (EvN.ev (ev_sp1 (ea_cons (ev_fz rfl) ea_nil) True.intro)) (many_true h1.1) ?_
  refine r_want (EvN.ev (ev_sp2 (ea_cons (ev_fz rfl) (ea_cons (ev_fz rfl) ea_nil)) (net_b h1))) rfl ?_
  refine r_want (EvN.ev (ev_sp2 (ea_cons (ev_fz rfl) (ea_cons (ev_fz rfl) ea_nil)) h2)) rfl ?_
  refine r_want (ev_andV (EvN.ev (ev_sp2 (ea_cons (ev_fz rfl) (ea_cons (ev_fz rfl) ea_nil)) True.intro)) (fun _ => (ev_notIn (ev_fz rfl) (Ev.sqT (ev_fz rfl))))) (by rw [one_b h3]; simpa using h4) ?_
  refine r_want (ev_andV (EvN.ev (ev_sp3 (ea_cons (ev_fz rfl) (ea_cons (ev_fz rfl) (ea_cons (ev_fz rfl) ea_nil))) True.intro)) (fun _ => (ev_notIn (ev_fz rfl) (Ev.sqT (ev_fz rfl))))) (by rw [two_b h3]; simpa using h5) ?_
  exact r_ret (EvN.ev (ev_sp5 (ea_cons (ev_fz rfl) (ea_cons (ev_fz rfl) (ea_cons (ev_fz rfl) (ea_cons (ev_fz rfl) (ea_cons (ev_fz rfl) ea_nil))))) (net_c h1)))
theorem run_way_past (x1 : Int) (x2 : List Wire) (x3 : Lot) (x4 x5 : Int) (hp : Net6 x1 x2 ∧ LotOk x1 x3 ∧ PairOk x1 x4 x5 ∧ x4 ∉ x3 ∧ x5 ∉ x3) : Run K (rd_way_past P w K) [.fz x1, .fz x2, .fz x3, .fz x4, .fz x5] (.ret (bareWay x2 x3 x4 x5) []) := by
  obtain ⟨h1, h2, h3, h4, h5⟩ := hp
  refine r_want (EvN.ev (ev_sp1 (ea_cons (ev_fz rfl) ea_nil) True.intro)) (many_true h1.1) ?_
  refine r_want (EvN.ev (ev_sp2 (ea_cons (ev_fz rfl) (ea_cons (ev_fz rfl) ea_nil)) (net_b h1))) rfl ?_
  refine r_want (EvN.ev (ev_sp2 (ea_cons (ev_fz rfl) (ea_cons (ev_fz rfl) ea_nil)) h2)) rfl ?_
  refine r_want (ev_andV (EvN.ev (ev_sp2 (ea_cons (ev_fz rfl) (ea_cons (ev_fz rfl) ea_nil)) True.intro)) (fun _ => (ev_notIn (ev_fz rfl) (Ev.sqT (ev_fz rfl))))) (by rw [one_b h3]; simpa using h4) ?_
  refine r_want (ev_andV (EvN.ev (ev_sp3 (ea_cons (ev_fz rfl) (ea_cons (ev_fz rfl) (ea_cons (ev_fz rfl) ea_nil))) True.intro)) (fun _ => (ev_notIn (ev_fz rfl) (Ev.sqT (ev_fz rfl))))) (by rw [two_b h3]; simpa using h5) ?_
  exact r_ret (EvN.ev (ev_sp4 (ea_cons (ev_fz rfl) (ea_cons (ev_fz rfl) (ea_cons (ev_fz rfl) (ea_cons (ev_fz rfl) ea_nil)))) (net_b h1).2))
theorem run_between_lots (x1 : Int) (x2 : List Lot) (x3 x4 : Int) (hp : Fear6 x1 x2 ∧ PairOk x1 x3 x4) : Run K (rd_between_lots P w K) [.fz x1, .fz x2, .fz x3, .fz x4] (.ret (between x2 x3 x4) []) := by
  obtain ⟨h1, h3⟩ := hp
  refine r_want (EvN.ev (ev_sp1 (ea_cons (ev_fz rfl) ea_nil) True.intro)) (many_true h1.1) ?_
  refine r_want (EvN.ev (ev_sp2 (ea_cons (ev_fz rfl) (ea_cons (ev_fz rfl) ea_nil)) (fear_b h1))) rfl ?_
  refine r_want (EvN.ev (ev_sp2 (ea_cons (ev_fz rfl) (ea_cons (ev_fz rfl) ea_nil)) True.intro)) (one_b h3) ?_
  refine r_want (EvN.ev (ev_sp3 (ea_cons (ev_fz rfl) (ea_cons (ev_fz rfl) (ea_cons (ev_fz rfl) ea_nil))) True.intro)) (two_b h3) ?_
  exact r_ret (EvN.ev (ev_sp3 (ea_cons (ev_fz rfl) (ea_cons (ev_fz rfl) (ea_cons (ev_fz rfl) ea_nil))) h1.2.2))
theorem run_dividing_lots (x1 : Int) (x2 : List Wire) (x3 : List Lot) (hp : Net6 x1 x2 ∧ Fear6 x1 x3) : Run K (rd_dividing_lots P w K) [.fz x1, .fz x2, .fz x3, .any] (.ret (dividing x1 x2 x3) []) := by
  obtain ⟨h1, h2⟩ := hp
  refine r_want (EvN.ev (ev_sp1 (ea_cons (ev_fz rfl) ea_nil) True.intro)) (many_true h1.1) ?_
  refine r_want (EvN.ev (ev_sp2 (ea_cons (ev_fz rfl) (ea_cons (ev_fz rfl) ea_nil)) (net_b h1))) rfl ?_
  refine r_want (EvN.ev (ev_sp2 (ea_cons (ev_fz rfl) (ea_cons (ev_fz rfl) ea_nil)) (fear_b h2))) rfl ?_
  refine r_retIs (ev_tupL (Ev.sqL (EvN.ev (ev_lc (f := fun h => h) (ei_seq (Ev.sqT (EvN.ev (ev_sp2 (ea_cons (ev_fz rfl) (ea_cons (ev_fz rfl) ea_nil)) h2)))) (fun x hx => eg_name) (fun x hx => (et_test (ev_gt (ev_len (Ev.sqT (EvN.ev (ev_sp3 (ea_cons (ev_fz rfl) (ea_cons (ev_fz rfl) (ea_cons (ev_fz rfl) ea_nil))) (net_c h1))))) ev_int))) (fun x hx hp => (ev_fz rfl)))))) ?_
  rw [List.map_id']
  rfl
theorem run_is_sturdy (x1 : Int) (x2 : List Wire) (x3 : List Lot) (hp : Net6 x1 x2 ∧ Fear6 x1 x3) : Run K (rd_is_sturdy P w K) [.fz x1, .fz x2, .fz x3] (.ret (sturdy x1 x2 x3) []) :=
  r_retIs (ev_eqU (α := Int) (ev_len (Ev.sqT (EvN.ev (ev_sp3 (ea_cons (ev_fz rfl) (ea_cons (ev_fz rfl) (ea_cons (ev_fz rfl) ea_nil))) hp)))) ev_int) rfl
theorem run_needed_wires (x1 : Int) (x2 : List Wire) (x3 : List Lot) (hp : Net6 x1 x2 ∧ Fear6 x1 x3 ∧ sturdy x1 x2 x3 = true) : Run K (rd_needed_wires P w K) [.fz x1, .fz x2, .fz x3, .any, .any, .any, .any, .any, .any] (.ret (needed x1 x2 x3) []) := by
  obtain ⟨h1, h2, h3⟩ := hp
  refine r_want (EvN.ev (ev_sp3 (ea_cons (ev_fz rfl) (ea_cons (ev_fz rfl) (ea_cons (ev_fz rfl) ea_nil))) ⟨h1, h2⟩)) h3 ?_
  refine r_seq (r_set (EvN.ev (ev_sp2 (ea_cons (ev_fz rfl) (ea_cons (ev_fz rfl) ea_nil)) h2))) ?_
  refine r_seq (r_setL (ev_lst (eal_nil (α := Wire)))) ?_
  refine r_seq (r_forN (S := fun pre => [.fz x1, .fz x2, .fz x3, .fz (fearedLots x1 x3), .ol (pre.filter fun w => (fearedLots x1 x3).any fun l => decide (1 < ((sides x1 (without x2 w) l).length : Int))), .any, .any, .any, .any]) (ef_tup (ev_fz rfl)) (by trivial) (fun pre x => eg_name) (fun pre x post e => ?_)) ?_
  · have hc := net_c h1
    have hw : ∀ p ∈ without x2 x, WireOk x1 p := fun p hp => hc.2.2 p ((List.mem_filter.mp hp).1)
    refine r_seq (r_set (x := without x2 x) ((ev_tupL (Ev.sqL (EvN.ev (ev_lc (f := fun h => h) (ei_seq (Ev.sqT (ev_fz rfl))) (fun x hx => eg_name) (fun x hx => (et_test (ev_neU (α := (Int × Int)) (ev_fz rfl) (ev_fz rfl)))) (fun x hx hp => (ev_fz rfl)))))).is (by rw [List.map_id']; rfl))) ?_
    have hl := (net_b h1).2
    have hlen : pre.length ≤ 1000 := by
      have := congrArg List.length e
      rw [List.length_append, List.length_cons] at this
      omega
    rw [List.filter_append]
    refine r_if (et_B (ev_any (EvN.ev (ev_lcA (ei_seq (Ev.sqT (ev_fz rfl))) (fun x hx => eg_name) (fun l hx => (ev_gt (ev_len (Ev.sqT (EvN.ev (ev_sp3 (ea_cons (ev_fz rfl) (ea_cons (ev_fz rfl) (ea_cons (ev_fz rfl) ea_nil))) ⟨hc.1, hc.2.1, hw⟩)))) ev_int)))))) (fun h2 => ?_) (fun h2 => ?_)
    · rw [any_map] at h2
      have e2 : [x].filter (fun w => (fearedLots x1 x3).any fun l => decide (1 < ((sides x1 (without x2 w) l).length : Int))) = [x] := by
        rw [List.filter_cons, if_pos h2]
        rfl
      rw [e2]
      refine r_le (r_app rfl (ev_fz rfl) ?_) (by trivial)
      refine Nat.lt_of_le_of_lt (List.length_filter_le _ _) ?_
      unfold LIM
      omega
    · rw [any_map] at h2
      have e2 : [x].filter (fun w => (fearedLots x1 x3).any fun l => decide (1 < ((sides x1 (without x2 w) l).length : Int))) = [] := by
        rw [List.filter_cons, if_neg (by rw [h2]; decide)]
        rfl
      rw [e2, List.append_nil]
      exact r_le r_next (by trivial)
  · exact r_ret (ev_tupL (Ev.sqL (ev_ow rfl)))
theorem run_pairs_fit (x1 : Int) (x2 : List Wire) (hp : ∀ p ∈ x2, PairOk x1 p.1 p.2) : Run K (rd_pairs_fit P w K) [.fz x1, .fz x2, .any] (.ret true []) := by
  refine r_for (P := fun _ => True) (S := fun _ => [.fz x1, .fz x2, .any]) (ef_tup (ev_fz rfl)) (by trivial) True.intro (fun pre x => eg_name) (fun pre x post e _ => .inr ⟨True.intro, ?_⟩) fun _ => r_retIs ev_bl rfl
  obtain ⟨h1, h2, h3, h4, h5⟩ := hp x (mem_split e)
  refine r_ifS (et_or (et_not (et_B (ev_isiP (b := true) (ev_fz rfl) (by decide +kernel)))) (fun _ => (et_test (ev_neU (α := Int) (ev_len2 (ev_fz rfl)) ev_int)))) (fun h2 => ?_) (fun h2 => r_skip ?_)
  · simp at h2
  · refine r_if (et_or (et_not (et_B (EvN.ev (ev_sp2 (ea_cons (ev_fz rfl) (ea_cons (ev_fst (ev_fz rfl)) ea_nil)) True.intro)))) (fun _ => (et_or (et_not (et_B (EvN.ev (ev_sp2 (ea_cons (ev_fz rfl) (ea_cons (ev_snd (ev_fz rfl)) ea_nil)) True.intro)))) (fun _ => (et_test (ev_eqU (α := Int) (ev_fst (ev_fz rfl)) (ev_snd (ev_fz rfl)))))))) (fun h6 => ?_) (fun h6 => r_le r_next (by trivial))
    simp only [inHouse, Bool.or_eq_true, Bool.not_eq_true', Bool.and_eq_false_imp, decide_eq_true_eq, decide_eq_false_iff_not] at h6
    omega
theorem run_net_by (x1 : List Wire) (hp : x1.length ≤ 62) : Run K (rd_net_by P w K) [.fz x1, .any] (.ret (netBy x1) []) :=
  r_retIs (ev_tupL (Ev.sqL (EvN.ev (ev_ssW (Ev.sqL (EvN.ev (ev_lcA (f := fun p => wireBetween p.1 p.2) (ei_seq (Ev.sqT (ev_fz rfl))) (fun x hx => eg_name) (fun x hx => (EvN.ev (ev_sp2 (ea_cons (ev_fst (ev_fz rfl)) (ea_cons (ev_snd (ev_fz rfl)) ea_nil)) True.intro)))))) (Few.len (by rw [List.length_map, List.length_map]; exact hp)))))) rfl
end
end Dy
/-! ## F2 -/
namespace Mi
open Dy
/-! ### a shortest way: what grows -/
theorem mem_houses {net : List Wire} {x : Int} : x ∈ houses net ↔ ∃ p ∈ net, x = p.1 ∨ x = p.2 := by
  unfold houses
  rw [List.mem_flatMap]
  simp
theorem unseen_snoc {net : List Wire} {seen : List Int} {h : Int} (hh : h ∈ houses net) (hs : h ∉ seen) : unseen net (seen ++ [h]) + 1 ≤ unseen net seen := by
  unfold unseen
  generalize houses net = U at hh
  have key : ∀ U : List Int, ((U.filter fun x => !decide (x ∈ seen ++ [h])).length ≤ (U.filter fun x => !decide (x ∈ seen)).length) ∧ (h ∈ U → (U.filter fun x => !decide (x ∈ seen ++ [h])).length + 1 ≤ (U.filter fun x => !decide (x ∈ seen)).length) := by
    intro U
    induction U with
    | nil => simp
    | cons y ys ih =>
      obtain ⟨i1, i2⟩ := ih
      by_cases e : y = h
      · subst e
        have e1 : decide (y ∈ seen ++ [y]) = true := by simp
        have e2 : decide (y ∈ seen) = false := by simp [hs]
        simp only [List.filter_cons, e1, e2, Bool.not_true, Bool.not_false, if_true, Bool.false_eq_true, if_false, List.length_cons]
        exact ⟨Nat.le_succ_of_le i1, fun _ => Nat.succ_le_succ i1⟩
      · have e1 : decide (y ∈ seen ++ [h]) = decide (y ∈ seen) := by simp [e]
        simp only [List.filter_cons, e1]
        by_cases e3 : y ∈ seen
        · simp only [decide_eq_true e3, Bool.not_true, Bool.false_eq_true, if_false]
          exact ⟨i1, fun z => i2 ((List.mem_cons.mp z).resolve_left fun q => e q.symm)⟩
        · simp only [decide_eq_false e3, Bool.not_false, if_true, List.length_cons]
          exact ⟨Nat.succ_le_succ i1, fun z => Nat.succ_le_succ (i2 ((List.mem_cons.mp z).resolve_left fun q => e q.symm))⟩
  exact (key U).2 hh
theorem sortI_mem {x : Int} {xs : List Int} : x ∈ sortI xs ↔ x ∈ xs := (List.mergeSort_perm _ _).mem_iff
theorem mem_wired {net : List Wire} {a x : Int} : x ∈ wired net a ↔ ∃ p ∈ net, (p.1 = a ∧ x = p.2) ∨ (p.1 ≠ a ∧ p.2 = a ∧ x = p.1) := by
  unfold wired
  rw [sortI_mem, List.mem_map]
  constructor
  · rintro ⟨p, hp, e⟩
    obtain ⟨h1, h2⟩ := List.mem_filter.mp hp
    have h3 : a = p.1 ∨ a = p.2 := by simpa [touches] using h2
    refine ⟨p, h1, ?_⟩
    by_cases h4 : p.1 = a
    · rw [if_pos (decide_eq_true h4)] at e
      exact .inl ⟨h4, e.symm⟩
    · rw [if_neg (by simpa using h4)] at e
      exact .inr ⟨h4, (h3.resolve_left fun z => h4 z.symm).symm, e.symm⟩
  · rintro ⟨p, hp, h⟩
    refine ⟨p, List.mem_filter.mpr ⟨hp, ?_⟩, ?_⟩
    · rcases h with h | h <;> simp [touches, h.1, h.2]
    · rcases h with h | h
      · rw [if_pos (decide_eq_true h.1), h.2]
      · rw [if_neg (by simpa using h.1), h.2.2]
theorem wired_houses {net : List Wire} {a x : Int} (h : x ∈ wired net a) : x ∈ houses net := by
  obtain ⟨p, hp, h⟩ := mem_wired.mp h
  refine mem_houses.mpr ⟨p, hp, ?_⟩
  rcases h with h | h
  · exact .inr h.2
  · exact .inl h.2.2
/-- what holds while ways grow; n0: what was unseen, c: what had been seen -/
structure Grown (net : List Wire) (one : Int) (n0 : Nat) (st : List Int × List Lot) : Prop where
  nd : st.1.Nodup
  sub : ∀ x ∈ st.1, x ∈ one :: houses net
  le : st.2.length ≤ st.1.length
  way : ∀ w ∈ st.2, w ≠ [] ∧ w.length ≤ st.1.length
  un : st.2.length + unseen net st.1 ≤ n0
theorem Grown.step {net : List Wire} {one : Int} {n0 : Nat} {st : List Int × List Lot} {lot way : Lot} {h : Int} (g : Grown net one n0 st) (hh : h ∈ houses net) (hw : way.length ≤ st.1.length) : Grown net one n0 (grow lot way st h) ∧ st.1.length ≤ (grow lot way st h).1.length := by
  unfold grow
  split
  · rename_i c
    have c2 : h ∉ st.1 := by
      simp only [Bool.and_eq_true, Bool.not_eq_true', decide_eq_false_iff_not] at c
      exact c.2
    have u := unseen_snoc hh c2
    have g5 := g.un
    have g3 := g.le
    refine ⟨⟨?_, ?_, ?_, ?_, ?_⟩, ?_⟩
    · refine List.nodup_append.mpr ⟨g.nd, by simp, ?_⟩
      intro a ha b hb e
      rw [List.mem_singleton.mp hb] at e
      exact c2 (e ▸ ha)
    · intro x hx
      rcases List.mem_append.mp hx with z | z
      · exact g.sub x z
      · rw
              [List.mem_singleton.mp z]
        exact List.mem_cons_of_mem _ hh
    · simp only [List.length_append, List.length_singleton]
      omega
    · intro w hw2
      simp only [List.length_append,
              List.length_singleton]
      rcases List.mem_append.mp hw2 with z | z
      · exact ⟨(g.way w z).1, Nat.le_succ_of_le (g.way w z).2⟩
      · rw
              [List.mem_singleton.mp z]
        exact ⟨by simp, by rw [List.length_append, List.length_singleton]; exact Nat.succ_le_succ hw⟩
    · simp only [List.length_append, List.length_singleton]
      omega
    · simp
  · exact ⟨g, Nat.le_refl _⟩
theorem Grown.fold {net : List Wire} {one : Int} {n0 : Nat} {lot way : Lot} : ∀ {hs : List Int} {st : List Int × List Lot}, Grown net one n0 st → (∀ h ∈ hs, h ∈ houses net) → way.length ≤ st.1.length → Grown net one n0 (hs.foldl (grow lot way) st) ∧ st.1.length ≤ (hs.foldl (grow lot way) st).1.length
  | [], st, g, _, _ => ⟨g, Nat.le_refl _⟩
  | h :: hs, st, g, hh, hw => by
    obtain ⟨g1, l1⟩ := g.step (lot := lot) (hh h (List.mem_cons_self ..)) hw
    obtain ⟨g2, l2⟩ := Grown.fold (lot := lot) (way := way) (hs := hs) g1 (fun x hx => hh x (List.mem_cons_of_mem _ hx)) (Nat.le_trans hw l1)
    exact ⟨g2, Nat.le_trans l1 l2⟩
theorem Grown.all {net : List Wire} {one : Int} {n0 : Nat} {lot : Lot} : ∀ {ws : List Lot} {st : List Int × List Lot}, Grown net one n0 st → (∀ w ∈ ws, w.length ≤ st.1.length) → Grown net one n0 (ws.foldl (fun st w => growAll net lot w st) st) ∧ st.1.length ≤ (ws.foldl (fun st w => growAll net lot w st) st).1.length
  | [], st, g, _ => ⟨g, Nat.le_refl _⟩
  | w :: ws, st, g, hw => by
    obtain ⟨g1, l1⟩ := g.fold (lot := lot) (way := w) (hs := wired net (lastD w)) (fun h hh => wired_houses hh) (hw w (List.mem_cons_self ..))
    obtain ⟨g2, l2⟩ := Grown.all (lot := lot) (ws := ws) g1 fun x hx => Nat.le_trans (hw x (List.mem_cons_of_mem _ hx)) l1
    exact ⟨g2, Nat.le_trans l1 l2⟩
theorem Grown.small {net : List Wire} {one : Int} {n0 : Nat} {st : List Int × List Lot} (g : Grown net one n0 st) (hn : net.length ≤ 1000) : st.1.length ≤ 2001 := by
  have z := List.Nodup.length_le_of_subset g.nd g.sub
  have e : ∀ net : List Wire, (houses net).length = 2 * net.length := by
    intro net
    induction net with
    | nil => rfl
    | cons p net ih =>
      unfold houses at ih ⊢
      rw [List.flatMap_cons, List.length_append, ih]
      simp
      omega
  rw [List.length_cons, e] at z
  omega
theorem layer_inr {net : List Wire} {lot : Lot} {other : Int} : ∀ {ws : List Lot} {st st' : List Int × List Lot}, layer net lot other ws st = .inr st' → (∀ w ∈ ws, lastD w ≠ other) ∧ st' = ws.foldl (fun st w => growAll net lot w st) st
  | [], st, st', h => by
    cases h
    exact ⟨fun w hw => (List.not_mem_nil hw).elim, rfl⟩
  | w :: ws, st, st', h => by
    unfold layer at h
    by_cases c : lastD w = other
    · rw [if_pos (decide_eq_true c)] at h
      cases h
    · rw [if_neg (by simpa using c)] at h
      obtain ⟨h1, h2⟩ := layer_inr h
      refine ⟨fun x hx => ?_, h2⟩
      rcases List.mem_cons.mp
              hx with rfl | hx
      · exact c
      · exact h1 x hx
theorem layer_pre {net : List Wire} {lot : Lot} {other : Int} {post : List Lot} : ∀ {pre : List Lot} {st : List Int × List Lot}, (∀ w ∈ pre, lastD w ≠ other) → layer net lot other (pre ++ post) st = layer net lot other post (pre.foldl (fun st w => growAll net lot w st) st)
  | [], st, _ => rfl
  | w :: ws, st, h => by
    rw [List.cons_append, layer, if_neg (by simpa using h w (List.mem_cons_self ..))]
    exact layer_pre fun x hx => h x (List.mem_cons_of_mem _ hx)
end Mi
/-! ## Run7 -/
namespace Dy
open PySem L2 PyProof.Rows Mi
local macro_rules | `(tactic| trivial) => `(tactic| (repeat (first | exact Le.stop | apply Le.same | apply Le.drop)); done)
section
variable {P : Program} {w : World} {K : Fg}
/-- the state of the search: ways, seen -/
def wayS (net : List Wire) (lot : Lot) (a b : Int) (s : List Lot × List Int) : Ctx := [.fz net, .fz lot, .fz a, .fz b, .ol s.1, .ow none (dicP s.2), .any, .any, .any]
def wayM (net : List Wire) (s : List Lot × List Int) : Nat := 2 * unseen net s.2 + if s.1 = [] then 0 else 1
def wayI (net : List Wire) (lot : Lot) (a b : Int) (r : Option Lot) (s : List Lot × List Int) : Prop := (∃ n0, Grown net a n0 (s.2, s.1)) ∧ ∃ n, wayM net s < n ∧ bfs net lot b n s.1 s.2 = r
theorem run_wired_in {net : List Wire} {lot way : Lot} {a b : Int} {ways : List Lot} {st : List Int × List Lot} {n0 : Nat} (hn : net.length ≤ 1000) (g : Grown net a n0 st) (hw : way ≠ []) (hl : way.length ≤ st.1.length) {γ : Type} [Enc γ] :
    Run K (tFor (iSeq K (tCall (sp_bare_wired K) [] E0 (tCons (tVar 0) (tCons (tOp (rIxU K) (tVar 7) (tUn (rU fun i => V.int (-i)) (tC (.int 1)))) tNil)))) (gName 8) (tIfS (tAnd (tTest (tOp (rInU K true) (tVar 8) (tVar 1))) (tB (tDNotIn (tVar 8) (tVar 5)))) (tSeq (sDPut (tVar 5) (tVar 8) (tC (.bl true))) (tDrop (tBM K "list" rAppend (tVar 6) (tCons (tOp (rAddU K) (tVar 7) (tTup (tCons (tVar 8) tNil))) tNil)))) tNext))
      [.fz net, .fz lot, .fz a, .fz b, .ol ways, .ow none (dicP st.1), .ol st.2, .fz way, .any] (.next [.fz net, .fz lot, .fz a, .fz b, .ol ways, .ow none (dicP (growAll net lot way st).1), .ol (growAll net lot way st).2, .fz way, .any] : Out γ) := by
  refine r_forN (xs := wired net (lastD way)) (S := fun pre => [.fz net, .fz lot, .fz a, .fz b, .ol ways, .ow none (dicP (pre.foldl (grow lot way) st).1), .ol (pre.foldl (grow lot way) st).2, .fz way, .any]) (ef_tup (EvN.ev (ev_sp2 (ea_cons (ev_fz rfl) (ea_cons (ev_last (Ev.sqT (ev_fz rfl)) (List.length_pos_iff.mpr hw)) ea_nil)) True.intro))) (by trivial) (fun pre x => eg_name) (fun pre x post e => ?_)
  have hin : ∀ h ∈ pre ++ [x], h ∈ houses net := fun h hh => wired_houses (a := lastD way) (by
    rw [e]
    rcases List.mem_append.mp hh with z | z
    · exact
            List.mem_append_left _ z
    · rw
            [List.mem_singleton.mp z]
      simp)
  have g1 := (g.fold (lot := lot) (way := way) (hs := pre) (fun h hh => hin h (List.mem_append_left _ hh)) hl).1
  have s1 := g1.small hn
  have s2 := g1.le
  rw [List.foldl_append]
  show Run K _ _ (.next [.fz net, .fz lot, .fz a, .fz b, .ol ways, .ow none (dicP (grow lot way (pre.foldl (grow lot way) st) x).1), .ol (grow lot way (pre.foldl (grow lot way) st) x).2, .fz way, .any])
  have hl2 := g.small hn
  generalize pre.foldl (grow lot way) st = st1 at s1 s2 ⊢
  unfold grow
  refine r_if (et_and (et_test (ev_notIn (α := Int) (xs := lot) (ev_fz rfl) (Ev.sqT (ev_fz rfl)))) (fun _ => (ev_dnotin (ev_fz rfl) rfl))) (fun h4 => ?_) (fun h4 => ?_)
  · rw [if_pos h4]
    have hx : x ∉ st1.1 := by
      simp only [Bool.and_eq_true, Bool.not_eq_true', decide_eq_false_iff_not] at h4
      exact h4.2
    refine r_seq (r_dput rfl (ev_fz rfl) hx (by unfold LIM; omega)) ?_
    refine r_le (r_app rfl (ev_addT (ev_fz rfl) (ev_tup (eal_cons (ev_fz rfl) eal_nil)) ?_) (by unfold LIM; omega)) (by trivial)
    show way.length + 1 ≤ LIM
    unfold LIM
    omega
  · rw [if_neg (by rw [h4]; decide)]
    exact r_le r_next (by trivial)
theorem run_bare_way (x1 : List Wire) (x2 : Lot) (x3 x4 : Int) (hp : WaysOk x1) : Run K (rd_bare_way P w K) [.fz x1, .fz x2, .fz x3, .fz x4, .any, .any, .any, .any, .any] (.ret (bareWay x1 x2 x3 x4) []) := by
  refine r_seq (r_setL (ev_lst (eal_cons (ev_tup (eal_cons (ev_fz rfl) eal_nil)) eal_nil))) ?_
  refine r_seq (r_dnew (n := 0) (ev_fz rfl)) ?_
  refine r_while (S := wayS x1 x2 x3 x4) (s0 := ([[x3]], [x3])) (Iv := wayI x1 x2 x3 x4 (bareWay x1 x2 x3 x4)) (μ := wayM x1) (ts := fun s => decide (0 < (s.1.length : Int))) (by unfold wayS; trivial) ?_ (fun s hs => (et_test (ev_gt (ev_len (Ev.sqL (ev_ow rfl))) ev_int))) (fun s hs ht => ?_) (fun s hs ht => ?_)
  · refine ⟨⟨1 + unseen x1 [x3], ⟨by simp, by simp, by simp, by simp, Nat.le_refl _⟩⟩, _, ?_, rfl⟩
    show 2 * unseen x1 [x3] + 1 < _
    have : unseen x1 [x3] ≤ (houses x1).length := List.length_filter_le _ _
    omega
  · obtain ⟨⟨n0, g⟩, n, hm, hr⟩ := hs
    obtain ⟨ways, seen⟩ := s
    cases n with
    | zero => omega
    | succ n =>
      have hr2 : (match layer x1 x2 x4 ways (seen, []) with
        | .inl w => some w
        | .inr st => bfs x1 x2 x4 n st.2 st.1) = bareWay x1 x2 x3 x4 := by
        rw [← hr]
        show _ = bfs x1 x2 x4 (n + 1) ways seen
        rw [bfs, if_pos ht]
        try rfl
      have g0 : Grown x1 x3 (unseen x1 seen) (seen, []) := ⟨g.nd, g.sub, Nat.zero_le _, fun w hw => (List.not_mem_nil hw).elim, by simp⟩
      have gp : ∀ {pre post : List Lot} {x : Lot}, ways = pre ++ x :: post → (Grown x1 x3 (unseen x1 seen) (pre.foldl (fun st w => growAll x1 x2 w st) (seen, [])) ∧ seen.length ≤ (pre.foldl (fun st w => growAll x1 x2 w st) (seen, [])).1.length) ∧ x ≠ [] ∧ x.length ≤ seen.length := fun {pre post x} e =>
        ⟨g0.all (lot := x2) (ws := pre) fun w hw => (g.way w (by show w ∈ ways; rw [e]; exact List.mem_append_left _ hw)).2, g.way x (mem_split e)⟩
      cases hlay : layer x1 x2 x4 ways (seen, []) with
      | inl y =>
        rw [hlay] at hr2
        refine .inl ?_
        rw [← hr2]
        refine r_seq (r_setL (ev_lst (eal_nil (α := Lot)))) ?_
        refine r_for (P := fun pre => ∀ w ∈ pre, lastD w ≠ x4) (S := fun pre => [.fz x1, .fz x2, .fz x3, .fz x4, .ol ways, .ow none (dicP (pre.foldl (fun st w => growAll x1 x2 w st) (seen, [])).1), .ol (pre.foldl (fun st w => growAll x1 x2 w st) (seen, [])).2, .any, .any]) (ef_new (ev_lstL (Ev.sqL (ev_ow rfl)))) (by unfold wayS; trivial) (fun w hw => (List.not_mem_nil hw).elim) (fun pre x => eg_name) (fun pre x post e hP => ?_) fun hP => ?_
        · obtain ⟨⟨g1, l1⟩, hx, hxl⟩ := gp e
          have el := hlay
          rw [show ways = pre ++ x :: post from e, layer_pre hP] at el
          by_cases hc : lastD x = x4
          · rw [layer, if_pos (decide_eq_true hc)] at el
            cases el
            refine .inl (r_ifS (et_test (ev_eqU (α := Int) (ev_last (Ev.sqT (ev_fz rfl)) (List.length_pos_iff.mpr hx)) (ev_fz rfl))) (fun h3 => r_seqR (r_ret (Ev.some_ (ev_fz rfl)))) (fun h3 => ?_))
            exact absurd hc (of_decide_eq_false h3)
          · refine .inr ⟨fun w hw => ?_, r_ifS (et_test (ev_eqU (α := Int) (ev_last (Ev.sqT (ev_fz rfl)) (List.length_pos_iff.mpr hx)) (ev_fz rfl))) (fun h3 => absurd (of_decide_eq_true h3) hc) (fun h3 => r_skip ?_)⟩
            · rcases List.mem_append.mp hw with z | z
              · exact hP w z
              · rw
                      [List.mem_singleton.mp z]
                exact hc
            · rw [List.foldl_append]
              exact r_le (run_wired_in hp g1 hx (Nat.le_trans hxl l1)) (by trivial)
        · have el := hlay
          rw [← List.append_nil ways, layer_pre hP] at el
          cases el
      | inr st =>
        rw [hlay] at hr2
        obtain ⟨hno, hst⟩ := layer_inr hlay
        refine .inr ⟨(st.2, st.1), ?_, ?_, ?_⟩
        · have gg := (g0.all (lot := x2) (ws := ways) fun w hw => (g.way w hw).2).1
          rw [← hst] at gg
          refine ⟨⟨_, gg⟩, n, ?_, hr2⟩
          have u := gg.un
          have hw : ways ≠ [] := fun z => by
            subst z
            simp at ht
          have hm2 : 2 * unseen x1 seen + 1 < n + 1 := by
            have : wayM x1 (ways, seen) = 2 * unseen x1 seen + 1 := by
              show 2 * unseen x1 seen + (if ways = [] then 0 else 1) = _
              rw [if_neg hw]
            omega
          show 2 * unseen x1 st.1 + (if st.2 = [] then 0 else 1) < n
          by_cases c : st.2 = []
          · rw [if_pos c]
            omega
          · rw [if_neg c]
            have := List.length_pos_iff.mpr c
            omega
        · have gg := (g0.all (lot := x2) (ws := ways) fun w hw => (g.way w hw).2).1
          rw [← hst] at gg
          have u := gg.un
          have hw : ways ≠ [] := fun z => by
            subst z
            simp at ht
          show 2 * unseen x1 st.1 + (if st.2 = [] then 0 else 1) < 2 * unseen x1 seen + (if ways = [] then 0 else 1)
          rw [if_neg hw]
          by_cases c : st.2 = []
          · rw [if_pos c]
            omega
          · rw [if_neg c]
            have := List.length_pos_iff.mpr c
            omega
        · refine r_seq (r_setL (ev_lst (eal_nil (α := Lot)))) ?_
          refine r_seq (r_forN (S := fun pre => [.fz x1, .fz x2, .fz x3, .fz x4, .ol ways, .ow none (dicP (pre.foldl (fun st w => growAll x1 x2 w st) (seen, [])).1), .ol (pre.foldl (fun st w => growAll x1 x2 w st) (seen, [])).2, .any, .any]) (ef_new (ev_lstL (Ev.sqL (ev_ow rfl)))) (by unfold wayS; trivial) (fun pre x => eg_name) (fun pre x post e => ?_)) ?_
          · obtain ⟨⟨g1, l1⟩, hx, hxl⟩ := gp e
            refine r_ifS (et_test (ev_eqU (α := Int) (ev_last (Ev.sqT (ev_fz rfl)) (List.length_pos_iff.mpr hx)) (ev_fz rfl))) (fun h3 => absurd (of_decide_eq_true h3) (hno x (mem_split e))) (fun h3 => r_skip ?_)
            rw [List.foldl_append]
            exact r_le (run_wired_in hp g1 hx (Nat.le_trans hxl l1)) (by trivial)
          · rw [← hst]
            exact r_le (r_mov rfl) (by unfold wayS; trivial)
  · obtain ⟨_, n, hm, hr⟩ := hs
    rw [← hr]
    refine r_retIs ev_nonO ?_
    cases n with
    | zero => rfl
    | succ n => rw [bfs, if_neg (by rw [ht]; decide)]
end
end Dy
/-! ## Run8 -/
namespace Dy
open PySem L2 PyProof.Rows Mi
local macro_rules | `(tactic| trivial) => `(tactic| (repeat (first | exact Le.stop | apply Le.same | apply Le.drop)); done)
section
variable {P : Program} {w : World} {K : Fg} {Γ : Ctx} {ta tb tc te : TE}
theorem ev_notNoneU (ha : Ev K ta Γ ()) : Ev K (tOp rIsNotU ta (tC .non)) Γ false := ev_op2 ha ev_non fun v u H Q r1 r2 q => .inl ⟨r2, q _ H (Evl.Ex.refl H) (by
  have e : v = V.non := r1
  subst e
  rfl)⟩
theorem ev_notNoneI {i : Int} (ha : Ev K ta Γ i) : Ev K (tOp rIsNotU ta (tC .non)) Γ true := ev_op2 ha ev_non fun v u H Q r1 r2 q => .inl ⟨r2, q _ H (Evl.Ex.refl H) (by
  have e : v = V.int i := r1
  subst e
  rfl)⟩
def lastE (pre : List Int) : Ent := match pre.getLast? with
  | none => .fz ()
  | some x => .fz x
theorem run_is_way (x1 : Int) (x2 : List Wire) (x3 : Lot) (hp : Net6 x1 x2 ∧ WayOk x1 x2 x3) (hl : x3.length ≤ 1000) : Run K (rd_is_way P w K) [.fz x1, .fz x2, .fz x3, .any, .any, .any] (.ret true []) := by
  obtain ⟨h1, h2, h3, h4⟩ := hp
  refine r_want (EvN.ev (ev_sp1 (ea_cons (ev_fz rfl) ea_nil) True.intro)) (many_true h1.1) ?_
  refine r_want (EvN.ev (ev_sp2 (ea_cons (ev_fz rfl) (ea_cons (ev_fz rfl) ea_nil)) (net_b h1))) rfl ?_
  refine r_ifS (et_not (et_B (ev_isiT (b := true) (ev_fz rfl) (by decide +kernel)))) (fun h1 => nomatch h1) (fun h1 => r_skip ?_)
  refine r_seq (r_set ev_non) ?_
  refine r_seq (r_setL (ev_lst (eal_nil (α := Int)))) ?_
  refine r_for (P := fun _ => True) (S := fun pre => [.fz x1, .fz x2, .fz x3, lastE pre, .ol pre, .any]) (ef_tup (ev_fz rfl)) (by show Le _ [.fz x1, .fz x2, .fz x3, .fz (), .ol ([] : List Int), .any]; trivial) True.intro (fun pre x => eg_name) (fun pre x post e _ => .inr ⟨True.intro, ?_⟩) fun _ => r_retIs ev_bl rfl
  have hx := h3 x (mem_split e)
  have hpl : pre.length < LIM := by
    have := congrArg List.length e
    rw [List.length_append, List.length_cons] at this
    unfold LIM
    omega
  have hno : x ∉ pre := fun z => by
    rw [e] at h2
    exact (List.nodup_append.mp h2).2.2 x z x (by simp) rfl
  refine r_ifS (et_or (et_not (et_B (EvN.ev (ev_sp2 (ea_cons (ev_fz rfl) (ea_cons (ev_fz rfl) ea_nil)) True.intro)))) (fun _ => (et_test (ev_in (ev_fz rfl) (Ev.sqL (ev_ow rfl)))))) (fun h5 => ?_) (fun h5 => r_skip ?_)
  · simp only [inHouse, Bool.or_eq_true, Bool.not_eq_true', Bool.and_eq_false_imp, decide_eq_true_eq, decide_eq_false_iff_not] at h5
    rcases h5 with h5 | h5
    · omega
    · exact absurd h5 hno
  have fin : ∀ E : Ent, Run K (tSeq (tDrop (tBM K "list" rAppend (tVar 4) (tCons (tVar 5) tNil))) (tAsg (tVar 5) (gName 3))) [.fz x1, .fz x2, .fz x3, E, .ol pre, .fz x] (.next [.fz x1, .fz x2, .fz x3, lastE (pre ++ [x]), .ol (pre ++ [x]), .any] : Out Bool) := fun E => by
    have e2 : lastE (pre ++ [x]) = .fz x := by unfold lastE; simp
    rw [e2]
    exact r_seq (r_app rfl (ev_fz rfl) hpl) (r_le (r_set (ev_fz rfl)) (by trivial))
  cases hg : pre.getLast? with
  | none =>
    have e2 : lastE pre = .fz () := by unfold lastE; rw [hg]
    rw [e2]
    exact r_ifS (et_and (et_test (ev_notNoneU (ev_fz rfl))) (fun z => nomatch z) (b := true)) (fun h6 => nomatch h6) (fun h6 => r_skip (fin _))
  | some y =>
    have e2 : lastE pre = .fz y := by unfold lastE; rw [hg]
    rw [e2]
    refine r_ifS (et_and (et_test (ev_notNoneI (ev_fz rfl))) (fun _ => (et_test (ev_notIn (EvN.ev (ev_sp2 (ea_cons (ev_fz rfl) (ea_cons (ev_fz rfl) ea_nil)) True.intro)) (Ev.sqT (ev_fz rfl)))))) (fun h6 => ?_) (fun h6 => r_skip (fin _))
    have hz : wireBetween y x ∈ x2 := by
      have hne : pre ≠ [] := fun z => by rw [z] at hg; cases hg
      have hpos := List.length_pos_iff.mpr hne
      refine h4 (pre.length - 1) y x ?_ ?_
      · rw [e, List.getElem?_append_left (by omega), ← List.getLast?_eq_getElem?]
        exact hg
      · rw [e, List.getElem?_append_right (by omega), show pre.length - 1 + 1 - pre.length = 0 by omega]
        rfl
    simp [hz] at h6
/-! what secret_paper answers -/
theorem ev_paper2 [Kp α] {s : Str} {x : α} (h1 : Ev K ta Γ s) (h2 : Ev K tb Γ x) : Ev K (tTup (tCons ta (tCons tb tNil))) Γ (Paper.mk s) := fun B F σ H k Q q =>
  h1 B F σ H k _ fun v H1 e1 r1 => h2 B F σ H1 (k.mono e1) _ fun u H2 e2 r2 => ⟨Nat.le_of_ble_eq_true rfl, fun a1 ha => q _ _ ((e1.trans e2).trans (Evl.Ex.new ha)) ⟨a1, [u], rfl, by rw [← show v = V.str s from r1]; exact SqT.of upd_same⟩⟩
theorem ev_paper3 [Kp α] [Kp β] {s : Str} {x : α} {y : β} (h1 : Ev K ta Γ s) (h2 : Ev K tb Γ x) (h3 : Ev K tc Γ y) : Ev K (tTup (tCons ta (tCons tb (tCons tc tNil)))) Γ (Paper.mk s) := fun B F σ H k Q q =>
  h1 B F σ H k _ fun v H1 e1 r1 => h2 B F σ H1 (k.mono e1) _ fun u H2 e2 r2 => h3 B F σ H2 ((k.mono e1).mono e2) _ fun z H3 e3 r3 => ⟨Nat.le_of_ble_eq_true rfl, fun a1 ha => q _ _ (((e1.trans e2).trans e3).trans (Evl.Ex.new ha)) ⟨a1, [u, z], rfl, by rw [← show v = V.str s from r1]; exact SqT.of upd_same⟩⟩
theorem ev_word {p : Paper} (h : Ev K ta Γ p) : Ev K (tOp (rIxU K) ta (tC (.int 0))) Γ p.word := ev_op2 h (ev_int (i := 0)) fun v u H Q r1 r2 q => by
  obtain ⟨a1, vs, rfl, h2⟩ := r1
  have e : atI (V.str p.word :: vs) 0 = some (V.str p.word) := by
    unfold atI
    rw [ixN_nat ⟨Int.le_refl 0, by rw [List.length_cons]; omega⟩]
    rfl
  exact .inr ⟨a1, _, 0, V.str p.word, rfl, r2, h2, e, q _ H (Evl.Ex.refl H) rfl⟩
theorem run_secret_paper (x1 : Int) (x2 : List Wire) (x3 : List Lot) (x4 x5 : Int) (hp : Net6 x1 x2 ∧ Fear6 x1 x3 ∧ PairOk x1 x4 x5) (hb : ∀ l ∈ between x3 x4 x5, x4 ∉ l) (hlen : (between x3 x4 x5).length ≤ 1000) : Run K (rd_secret_paper P w K) [.fz x1, .fz x2, .fz x3, .fz x4, .fz x5, .any, .any, .any, .any, .any] (.ret (Paper.mk (if canSend x2 x3 x4 x5 then "ways" else "divided")) []) := by
  obtain ⟨h1, h2, h3⟩ := hp
  have nb := net_b h1
  refine r_want (EvN.ev (ev_sp1 (ea_cons (ev_fz rfl) ea_nil) True.intro)) (many_true h1.1) ?_
  refine r_want (EvN.ev (ev_sp2 (ea_cons (ev_fz rfl) (ea_cons (ev_fz rfl) ea_nil)) nb)) rfl ?_
  refine r_seq (r_set (EvN.ev (ev_sp4 (ea_cons (ev_fz rfl) (ea_cons (ev_fz rfl) (ea_cons (ev_fz rfl) (ea_cons (ev_fz rfl) ea_nil)))) ⟨h2, h3⟩))) ?_
  refine r_seq (r_setL (ev_lst (eal_nil (α := Option (List Int))))) ?_
  refine r_for (P := fun pre => ∀ l ∈ pre, (bareWay x2 l x4 x5).isSome = true) (S := fun pre => [.fz x1, .fz x2, .fz x3, .fz x4, .fz x5, .fz (between x3 x4 x5), .ol (pre.map fun l => bareWay x2 l x4 x5), .any, .any, .any]) (ef_tup (ev_fz rfl)) (by trivial) (fun l hl => (List.not_mem_nil hl).elim) (fun pre x => eg_name) (fun pre x post e hP => ?_) fun hP => ?_
  · have hx := mem_split e
    by_cases hc : (bareWay x2 x x4 x5).isSome = true
    · refine .inr ⟨fun l hl => ?_, ?_⟩
      · rcases List.mem_append.mp hl with z | z
        · exact hP l z
        · rw
                [List.mem_singleton.mp z]
          exact hc
      · refine r_seq (r_set (EvN.ev (ev_sp4 (ea_cons (ev_fz rfl) (ea_cons (ev_fz rfl) (ea_cons (ev_fz rfl) (ea_cons (ev_fz rfl) ea_nil)))) nb.2))) ?_
        refine r_ifS (et_test (ev_isNone (ev_fz rfl))) (fun h6 => ?_) (fun h6 => r_skip ?_)
        · rw [Option.isNone_iff_eq_none.mp h6] at hc
          cases hc
        · rw [List.map_append]
          refine r_le (r_app rfl (ev_fz rfl) ?_) (by trivial)
          have := congrArg List.length e
          rw [List.length_append, List.length_cons] at this
          rw [List.length_map]
          unfold LIM
          omega
    · refine .inl ?_
      have hcs : canSend x2 x3 x4 x5 = false := by
        rw [Bool.eq_false_iff]
        intro z
        exact hc (List.all_eq_true.mp z x hx)
      rw [hcs]
      refine r_seq (r_set (EvN.ev (ev_sp4 (ea_cons (ev_fz rfl) (ea_cons (ev_fz rfl) (ea_cons (ev_fz rfl) (ea_cons (ev_fz rfl) ea_nil)))) nb.2))) ?_
      refine r_ifS (et_test (ev_isNone (ev_fz rfl))) (fun h6 => r_seqR ?_) (fun h6 => ?_)
      · refine r_seq (r_set (ev_at (α := List Int) (xs := ((sides x1 x2 x).filter fun s => decide (x4 ∈ s)).map fun s => s) (Ev.sqL (EvN.ev (ev_lc (f := fun s => s) (ei_seq (Ev.sqT (EvN.ev (ev_sp3 (ea_cons (ev_fz rfl) (ea_cons (ev_fz rfl) (ea_cons (ev_fz rfl) ea_nil))) (net_c h1))))) (fun x hx => eg_name) (fun x hx => (et_test (ev_in (ev_fz rfl) (Ev.sqT (ev_fz rfl))))) (fun x hx hp => (ev_fz rfl))))) ev_int ?_)) ?_
        · obtain ⟨s, hs, ha⟩ := side_of (m := x1) (net := x2) (lot := x) (a := x4) (net_c h1).2.2 (mem_others.mpr ⟨⟨h3.1, h3.2.1⟩, hb x hx⟩)
          rw [List.length_map]
          have hm : s ∈ (sides x1 x2 x).filter fun s => decide (x4 ∈ s) := List.mem_filter.mpr ⟨hs, decide_eq_true ha⟩
          have := List.length_pos_of_mem hm
          omega
        · exact r_ret (ev_paper3 ev_str (ev_fz rfl) (ev_fz rfl))
      · cases hbw : bareWay x2 x x4 x5 with
        | none =>
          rw [hbw] at h6
          cases h6
        | some y => exact absurd (by rw [hbw]; rfl) hc
  · have hcs : canSend x2 x3 x4 x5 = true := List.all_eq_true.mpr hP
    rw [hcs]
    exact r_ret (ev_paper2 (α := List (Option (List Int))) ev_str (ev_tupL (Ev.sqL (ev_ow rfl))))
theorem run_can_send (x1 : Int) (x2 : List Wire) (x3 : List Lot) (x4 x5 : Int) (hp : Net6 x1 x2 ∧ Fear6 x1 x3 ∧ PairOk x1 x4 x5) : Run K (rd_can_send P w K) [.fz x1, .fz x2, .fz x3, .fz x4, .fz x5] (.ret (canSend x2 x3 x4 x5) []) := by
  refine r_retIs (ev_eqS (ev_word (EvN.ev (ev_sp5 (ea_cons (ev_fz rfl) (ea_cons (ev_fz rfl) (ea_cons (ev_fz rfl) (ea_cons (ev_fz rfl) (ea_cons (ev_fz rfl) ea_nil))))) hp))) ev_str) ?_
  cases canSend x2 x3 x4 x5 <;> decide
end
end Dy
/-! ## F3 -/
namespace Mi
open Dy
/-! ### the law's own walks: what grows -/
structure Walked (net : List Wire) (h : Int) (seen : List Int) : Prop where
  nd : seen.Nodup
  sub : ∀ x ∈ seen, x ∈ h :: houses net
theorem houses_len (net : List Wire) : (houses net).length = 2 * net.length := by
  induction net with
  | nil => rfl
  | cons p net ih =>
    unfold houses at ih ⊢
    rw [List.flatMap_cons, List.length_append, ih]
    simp
    omega
theorem Walked.small {net : List Wire} {h : Int} {seen : List Int} (g : Walked net h seen) (hn : net.length ≤ 1000) : seen.length ≤ 2001 := by
  have z := List.Nodup.length_le_of_subset g.nd g.sub
  rw [List.length_cons, houses_len] at z
  omega
theorem Walked.snoc {net : List Wire} {h x : Int} {seen : List Int} (g : Walked net h seen) (hx : x ∉ seen) (hh : x ∈ houses net) : Walked net h (seen ++ [x]) := by
  refine ⟨List.nodup_append.mpr ⟨g.nd, by simp, ?_⟩, fun y hy => ?_⟩
  · intro a ha b hb e
    rw [List.mem_singleton.mp hb] at e
    exact hx (e ▸ ha)
  · rcases List.mem_append.mp hy with z | z
    · exact g.sub y z
    · rw
            [List.mem_singleton.mp z]
      exact List.mem_cons_of_mem _ hh
structure Jn (net : List Wire) (h : Int) (n0 : Nat) (st : List Int × Bool) : Prop where
  wk : Walked net h st.1
  un : unseen net st.1 + (if st.2 = true then 1 else 0) ≤ n0
theorem Jn.step {net : List Wire} {h : Int} {n0 : Nat} {st : List Int × Bool} {lot : Lot} {p : Wire} (g : Jn net h n0 st) (hp : p.2 ∈ houses net) : Jn net h n0 (jstep lot st p) := by
  unfold jstep
  split
  · rename_i c
    simp only [Bool.and_eq_true, Bool.not_eq_true', decide_eq_false_iff_not] at c
    have u := unseen_snoc hp c.2.1
    have g2 := g.un
    refine ⟨g.wk.snoc c.2.1 hp, ?_⟩
    show unseen net (st.1 ++ [p.2]) + 1 ≤ n0
    omega
  · exact g
theorem Jn.wire {net : List Wire} {h : Int} {n0 : Nat} {st : List Int × Bool} {lot : Lot} {p : Wire} (g : Jn net h n0 st) (hp : p ∈ net) : Jn net h n0 (jwire lot st p) :=
  (g.step (mem_houses.mpr ⟨p, hp, .inr rfl⟩)).step (p := (p.2, p.1)) (mem_houses.mpr ⟨p, hp, .inl rfl⟩)
theorem Jn.fold {net : List Wire} {h : Int} {n0 : Nat} {lot : Lot} : ∀ {ps : List Wire} {st : List Int × Bool}, Jn net h n0 st → (∀ p ∈ ps, p ∈ net) → Jn net h n0 (ps.foldl (jwire lot) st)
  | [], _, g, _ => g
  | p :: ps, st, g, hp => by
    rw [List.foldl_cons]
    exact Jn.fold (ps := ps) (g.wire (hp p (List.mem_cons_self ..))) fun q hq => hp q (List.mem_cons_of_mem _ hq)
/-- the layer ahead and what has been seen -/
structure Ln (net : List Wire) (h : Int) (n0 : Nat) (st : List Int × List Int) : Prop where
  wk : Walked net h st.2
  un : st.1.length + unseen net st.2 ≤ n0
theorem Ln.step {net : List Wire} {h : Int} {n0 : Nat} {st : List Int × List Int} {lot : Lot} {lay : List Int} {p : Wire} (g : Ln net h n0 st) (hp : p.2 ∈ houses net) : Ln net h n0 (lstep lot lay st p) := by
  unfold lstep
  split
  · rename_i c
    simp only [Bool.and_eq_true, Bool.not_eq_true', decide_eq_false_iff_not] at c
    have u := unseen_snoc hp c.2.1
    have g2 := g.un
    refine ⟨g.wk.snoc c.2.1 hp, ?_⟩
    show (st.1 ++ [p.2]).length + unseen net (st.2 ++ [p.2]) ≤ n0
    rw [List.length_append,
            List.length_singleton]
    omega
  · exact g
theorem Ln.wire {net : List Wire} {h : Int} {n0 : Nat} {st : List Int × List Int} {lot : Lot} {lay : List Int} {p : Wire} (g : Ln net h n0 st) (hp : p ∈ net) : Ln net h n0 (lwire lot lay st p) :=
  (g.step (mem_houses.mpr ⟨p, hp, .inr rfl⟩)).step (p := (p.2, p.1)) (mem_houses.mpr ⟨p, hp, .inl rfl⟩)
theorem Ln.fold {net : List Wire} {h : Int} {n0 : Nat} {lot : Lot} {lay : List Int} : ∀ {ps : List Wire} {st : List Int × List Int}, Ln net h n0 st → (∀ p ∈ ps, p ∈ net) → Ln net h n0 (ps.foldl (lwire lot lay) st)
  | [], _, g, _ => g
  | p :: ps, st, g, hp => by
    rw [List.foldl_cons]
    exact Ln.fold (ps := ps) (g.wire (hp p (List.mem_cons_self ..))) fun q hq => hp q (List.mem_cons_of_mem _ hq)
end Mi
/-! ## Run9 -/
namespace Dy
open PySem L2 PyProof.Rows Mi
local macro_rules | `(tactic| trivial) => `(tactic| (repeat (first | exact Le.stop | apply Le.same | apply Le.drop)); done)
section
variable {P : Program} {w : World} {K : Fg} {Γ : Ctx} {ta tb tc te : TE}
theorem run__law_within (x1 x2 : Lot) : Run K (rd__law_within P w K) [.fz x1, .fz x2, .any] (.ret (within x1 x2) []) := by
  refine r_retIs (ev_all (EvN.ev (ev_lcA (ei_seq (Ev.sqT (ev_fz rfl))) (fun x hx => eg_name) (fun x hx => (ev_in (ev_fz rfl) (Ev.sqT (ev_fz rfl))))))) ?_
  simp [within, List.all_map]
theorem run__law_others (x1 : Int) (x2 : Lot) (hp : -1000 ≤ x1 ∧ x1 ≤ 1000) : Run K (rd__law_others P w K) [.fz x1, .fz x2, .any] (.ret (others x1 x2) []) := by
  refine r_retIs (ev_tupL (Ev.sqL (EvN.ev (ev_lc (f := fun h => h) (ei_rng1 (ev_fz rfl) (by omega)) (fun x hx => eg_name) (fun x hx => (et_test (ev_notIn (ev_fz rfl) (Ev.sqT (ev_fz rfl))))) (fun x hx hp => (ev_fz rfl)))))) ?_
  rw [List.map_id']
  rfl
theorem run__law_lots (x1 : Int) (hp : 0 ≤ x1 ∧ x1 ≤ 6) : Run K (rd__law_lots P w K) [.fz x1, .any, .any, .any] (.ret (Lst.mk (lots x1)) []) := run_lots_in (P := P) (w := w) x1 hp
theorem run__law_greatest (x1 : Lst Lot) (hp : Few x1.l ∧ x1.l.length ≤ 1000) : Run K (rd__law_greatest P w K) [.bs x1, .any, .any, .any] (.ret (lawGreatest x1.l) []) := by
  obtain ⟨ls⟩ := x1
  have hl : ls.length ≤ 1000 := hp.2
  have hs := ssort_len ls
  refine r_seq (r_setL (ev_lst (eal_nil (α := Lot)))) ?_
  refine r_seq (r_forN (xs := ssort ls) (S := fun pre => [.bs (Lst.mk ls), .ol (pre.filter fun l => !(ls.any fun wide => !decide (l = wide) && within l wide)), .any, .any]) (ef_new (ev_ss (Ev.sqL (ev_bs rfl)) hp.1)) (by trivial) (fun pre x => eg_name) (fun pre x post e => ?_)) ?_
  · rw [List.filter_append]
    refine r_if (et_not (et_B (ev_any (EvN.ev (ev_lcA (f := fun wide => !decide (x = wide) && within x wide) (ei_seq (Ev.sqL (ev_bs rfl))) (fun x hx => eg_name) (fun x hx => (ev_andV (ev_neU (α := (List Int)) (ev_fz rfl) (ev_fz rfl)) (fun _ => (EvN.ev (ev_sp2 (ea_cons (ev_fz rfl) (ea_cons (ev_fz rfl) ea_nil)) True.intro)))))))))) (fun h2 => ?_) (fun h2 => ?_)
    · rw [any_map] at h2
      rw [List.filter_cons, if_pos h2]
      refine r_le (r_app rfl (ev_fz rfl) ?_) (by trivial)
      have := congrArg List.length e
      rw [List.length_append, List.length_cons] at this
      refine Nat.lt_of_le_of_lt (List.length_filter_le _ _) ?_
      unfold LIM
      omega
    · rw [any_map] at h2
      rw [List.filter_cons, if_neg (by rw [h2]; decide), List.filter_nil, List.append_nil]
      exact r_le r_next (by trivial)
  · exact r_ret (ev_tupL (Ev.sqL (ev_ow rfl)))
theorem run__law_feared (x1 : Int) (x2 : List Lot) (hp : 0 ≤ x1 ∧ x1 ≤ 6) : Run K (rd__law_feared P w K) [.fz x1, .fz x2, .any, .any] (.ret (Lst.mk (lawFeared x1 x2)) []) := by
  refine r_retN (EvN.is (ev_lc (f := fun l => l) (p := fun l => x2.any fun f => within l f) (ei_seq (Ev.sqL (EvN.ev (ev_sp1 (ea_cons (ev_fz rfl) ea_nil) hp)))) (fun x hx => eg_name) (fun x hx => EvT.is (et_B (ev_any (EvN.ev (ev_lcA (ei_seq (Ev.sqT (ev_fz rfl))) (fun x hx => eg_name) (fun x hx => (EvN.ev (ev_sp2 (ea_cons (ev_fz rfl) (ea_cons (ev_fz rfl) ea_nil)) True.intro))))))) (any_map _ _)) (fun x hx hp => (ev_fz rfl))) ?_)
  rw [List.map_id']
  rfl
theorem run__law_is_house (x1 x2 : Int) : Run K (rd__law_is_house P w K) [.fz x1, .fz x2] (.ret (inHouse x2 x1) []) := by
  exact r_retIs (ev_andV (ev_isiI (b := true) (ev_fz rfl) (by decide +kernel)) (fun _ => (ev_andV (ev_notV (ev_isiI (b := false) (ev_fz rfl) (by decide +kernel))) (fun _ => (ev_andV (ev_leI ev_int (ev_fz rfl)) (fun _ => (ev_lt (ev_fz rfl) (ev_fz rfl)))))))) (by simp [inHouse])
theorem run__law_between (x1 : Lst Lot) (x2 x3 : Int) (hp : x1.l.length ≤ 64 ∧ Few (x1.l.filter fun l => !decide (x2 ∈ l) && !decide (x3 ∈ l))) : Run K (rd__law_between P w K) [.bs x1, .fz x2, .fz x3, .any] (.ret (lawBetween x1.l x2 x3) []) := by
  obtain ⟨ls⟩ := x1
  have e : (ls.filter fun l => !decide (x2 ∈ l) && !decide (x3 ∈ l)).map (fun l => l) = ls.filter fun l => !decide (x2 ∈ l) && !decide (x3 ∈ l) := List.map_id' _
  refine r_retIs (EvN.ev (ev_sp1 (ea_cons (EvN.ev (ev_lc (f := fun l => l) (p := fun l => !decide (x2 ∈ l) && !decide (x3 ∈ l)) (ei_seq (Ev.sqL (ev_bs rfl))) (fun x hx => eg_name) (fun x hx => (et_and (et_test (ev_notIn (ev_fz rfl) (Ev.sqT (ev_fz rfl)))) (fun _ => (et_test (ev_notIn (ev_fz rfl) (Ev.sqT (ev_fz rfl))))))) (fun x hx hp => (ev_fz rfl)))) ea_nil) ?_)) ?_
  · show Few ((ls.filter fun l => !decide (x2 ∈ l) && !decide (x3 ∈ l)).map fun l => l) ∧ ((ls.filter fun l => !decide (x2 ∈ l) && !decide (x3 ∈ l)).map fun l => l).length ≤ 1000
    rw [e]
    exact ⟨hp.2, Nat.le_trans (List.length_filter_le _ _) (Nat.le_trans hp.1 (by decide))⟩
  · show lawGreatest ((ls.filter fun l => !decide (x2 ∈ l) && !decide (x3 ∈ l)).map fun l => l) = _
    rw [e]
    rfl
theorem run__law_anew (x1 : List Lot) (x2 x3 : Int) : Run K (rd__law_anew P w K) [.fz x1, .fz x2, .fz x3, .any, .any] (.ret (anew x1 x2 x3) []) :=
  r_ret (ev_tupL (Ev.sqL (EvN.ev (ev_lcA (f := fun (l : Lot) => l.map fun h => h - (if decide (x2 < h) = true then 1 else 0) - (if decide (x3 < h) = true then 1 else 0)) (ei_seq (Ev.sqT (ev_fz rfl))) (fun x hx => eg_name) (fun x hx => (ev_tupL (Ev.sqL (EvN.ev (ev_lcA (ei_seq (Ev.sqT (ev_fz rfl))) (fun x hx => eg_name) (fun x hx => (ev_sub (ev_sub (ev_fz rfl) (ev_intB (ev_gt (ev_fz rfl) (ev_fz rfl)))) (ev_intB (ev_gt (ev_fz rfl) (ev_fz rfl))))))))))))))
end
section
variable {P : Program} {w : World} {K : Fg} {γ : Type} [Enc γ] {t : TS} {n : Nat} {S0 S1 S2 : Ctx}
/-- for k in (0, 1) -/
theorem r_two (h0 : Run K t (S0.set n (.fz (0 : Int))) (.next S1 : Out γ)) (h1 : Run K t (S1.set n (.fz (1 : Int))) (.next S2 : Out γ)) : Run K (tFor (iSeq K (tTup (tCons (tC (.int 0)) (tCons (tC (.int 1)) tNil)))) (gName n) t) S0 (.next S2 : Out γ) := by
  refine r_forN (xs := [(0 : Int), 1]) (S := fun pre => if pre.length = 0 then S0 else if pre.length = 1 then S1 else S2) (ef_tup (ev_tup (eal_cons ev_int (eal_cons ev_int eal_nil)))) (Le.refl _) (fun pre x => eg_name) (fun pre x post e => ?_)
  cases pre with
  | nil =>
    cases e
    exact h0
  | cons a pre =>
    cases pre with
    | nil =>
      cases e
      exact h1
    | cons b pre =>
      have := congrArg List.length e
      simp at this
theorem run_jstep {ws : Sq Wire} {lot : Lot} {h k : Int} {st : List Int × Bool} {x p : Wire} (hk : k = 0 ∨ k = 1) (h1 : (if k = 0 then x.1 else x.2) = p.1) (h2 : (if 1 - k = 0 then x.1 else x.2) = p.2) (hl : st.1.length < LIM) :
    Run K (tSeq (tAsg (tOp (rIxU K) (tVar 5) (tOp (rI0 fun i j => V.int (i - j)) (tC (.int 1)) (tVar 6))) (gName 7)) (tIfS (tAnd (tTest (tOp (rInU K false) (tOp (rIxU K) (tVar 5) (tVar 6)) (tVar 3))) (tAnd (tTest (tOp (rInU K true) (tVar 7) (tVar 3))) (tTest (tOp (rInU K true) (tVar 7) (tVar 1))))) (tSeq (tDrop (tBM K "list" rAppend (tVar 3) (tCons (tVar 7) tNil))) (tAsg (tC (.bl true)) (gName 4))) tNext))
      [.bs ws, .fz lot, .fz h, .ol st.1, .fz st.2, .fz x, .fz k, .any] (.next [.bs ws, .fz lot, .fz h, .ol (jstep lot st p).1, .fz (jstep lot st p).2, .fz x, .any, .any] : Out γ) := by
  refine r_seq (r_set (x := p.2) ((ev_pix (α := Int) (ev_fz rfl) (ev_sub ev_int (ev_fz rfl)) (by omega)).is h2)) ?_
  unfold jstep
  refine r_if (et_and (et_test (ev_in (x := p.1) ((ev_pix (α := Int) (ev_fz rfl) (ev_fz rfl) hk).is h1) (Ev.sqL (ev_ow rfl)))) (fun _ => (et_and (et_test (ev_notIn (α := Int) (ev_fz rfl) (Ev.sqL (ev_ow rfl)))) (fun _ => (et_test (ev_notIn (α := Int) (xs := lot) (ev_fz rfl) (Ev.sqT (ev_fz rfl)))))))) (fun h4 => ?_) (fun h4 => ?_)
  · rw [if_pos h4]
    exact r_seq (r_app rfl (ev_fz rfl) hl) (r_le (r_set ev_bl) (by trivial))
  · rw [if_neg (by rw [h4]; decide)]
    exact r_le r_next (by trivial)
theorem run__law_joined (x1 : Sq Wire) (x2 : Lot) (x3 : Int) (hp : WaysOk x1.l) : Run K (rd__law_joined P w K) [.bs x1, .fz x2, .fz x3, .any, .any, .any, .any, .any] (.ret (Lst.mk (joined x1.l x2 x3)) []) := by
  obtain ⟨net⟩ := x1
  refine r_seq (r_setL (ev_lst (eal_cons (ev_fz rfl) eal_nil))) ?_
  refine r_seq (r_set ev_bl) ?_
  refine r_while (δ := List Int × Bool) (S := fun s => [.bs (Sq.mk net), .fz x2, .fz x3, .ol s.1, .fz s.2, .any, .any, .any]) (s0 := ([x3], true)) (Iv := fun s => Walked net x3 s.1 ∧ ∃ n, (2 * unseen net s.1 + if s.2 = true then 1 else 0) < n ∧ jloop net x2 n s = joined net x2 x3) (μ := fun s => 2 * unseen net s.1 + if s.2 = true then 1 else 0) (ts := fun s => s.2) (by trivial) ?_ (fun s hs => (et_B (ev_fz rfl))) (fun s hs ht => ?_) (fun s hs ht => ?_)
  · refine ⟨⟨by simp, by simp⟩, _, ?_, rfl⟩
    have : unseen net [x3] ≤ (houses net).length := List.length_filter_le _ _
    show 2 * unseen net [x3] + 1 < 2 * (houses net).length + 2
    omega
  · obtain ⟨wk, n, hm, hr⟩ := hs
    obtain ⟨near, g⟩ := s
    have ht : g = true := ht
    subst ht
    cases n with
    | zero => omega
    | succ n =>
      have hm : 2 * unseen net near + 1 < n + 1 := hm
      have g0 : Jn net x3 (unseen net near) (near, false) := ⟨wk, Nat.le_refl _⟩
      have g1 := g0.fold (lot := x2) (ps := net) fun p hp => hp
      have u := g1.un
      refine .inr ⟨net.foldl (jwire x2) (near, false), ⟨g1.wk, n, ?_, ?_⟩, ?_, ?_⟩
      · split at u <;> rename_i c
        · rw [if_pos c]
          omega
        · rw [if_neg c]
          omega
      · rw [← hr, jloop, if_pos rfl]
      · show _ < 2 * unseen net near + 1
        split at u <;> rename_i c
        · rw [if_pos c]
          omega
        · rw [if_neg c]
          omega
      · refine r_seq (r_set ev_bl) ?_
        refine r_le (r_forN (S := fun pre => [.bs (Sq.mk net), .fz x2, .fz x3, .ol (pre.foldl (jwire x2) (near, false)).1, .fz (pre.foldl (jwire x2) (near, false)).2, .any, .any, .any]) (ef_base rfl) (by trivial) (fun pre x => eg_name) (fun pre x post e => ?_)) (by trivial)
        have gp := g0.fold (lot := x2) (ps := pre) fun p hp => by rw [e]; exact List.mem_append_left _ hp
        rw [List.foldl_append]
        show Run K _ _ (.next [.bs (Sq.mk net), .fz x2, .fz x3, .ol (jwire x2 (pre.foldl (jwire x2) (near, false)) x).1, .fz (jwire x2 (pre.foldl (jwire x2) (near, false)) x).2, .any, .any, .any])
        have s1 := gp.wk.small hp
        have gx := gp.step (lot := x2) (p := x) (mem_houses.mpr ⟨x, mem_split e, .inr rfl⟩)
        have s2 := gx.wk.small hp
        generalize pre.foldl (jwire x2) (near, false) = st at s1 s2 ⊢
        unfold jwire
        refine r_le (r_two (run_jstep (p := x) (.inl rfl) rfl rfl (by unfold LIM; omega)) (r_from (by trivial) (run_jstep (k := 1) (x := x) (p := (x.2, x.1)) (.inr rfl) rfl rfl (by unfold LIM; omega)))) (by trivial)
  · obtain ⟨wk, n, hm, hr⟩ := hs
    have e : s.1 = joined net x2 x3 := by
      rw [← hr]
      cases n with
      | zero => rfl
      | succ n => rw [jloop, if_neg (by rw [ht]; decide)]
    show Run K _ _ (.ret (Lst.mk (joined net x2 x3)) [])
    rw [← e]
    exact r_retV rfl
end
end Dy
/-! ## F4 -/
namespace Mi
open Dy
/-! ### all lots -/
def lotsN (n : Nat) : List Lot := (rng 0 n).foldl (fun rows h => rows ++ rows.map fun l => l ++ [h]) [[]]
theorem lotsRaw_eq (m : Int) : lotsRaw m = lotsN m.toNat := rfl
theorem rng_succ (n : Nat) : rng 0 (n + 1) = rng 0 n ++ [(n : Int)] := by
  unfold rng
  rw [List.range_succ, List.map_append]
  simp
theorem lotsN_succ (n : Nat) : lotsN (n + 1) = lotsN n ++ (lotsN n).map fun l => l ++ [(n : Int)] := by
  unfold lotsN
  rw [rng_succ, List.foldl_append]
  rfl
theorem LotOk.up {m n : Int} {l : Lot} (h : LotOk m l) (hn : m ≤ n) : LotOk n l := ⟨h.1, fun x hx => ⟨(h.2 x hx).1, Int.lt_of_lt_of_le (h.2 x hx).2 hn⟩⟩
theorem mem_lotsN {x : Lot} : ∀ {n : Nat}, x ∈ lotsN n ↔ LotOk n x
  | 0 => by
    show x ∈ [[]] ↔ _
    rw [List.mem_singleton]
    constructor
    · rintro rfl
      exact ⟨List.Pairwise.nil, fun y hy => (List.not_mem_nil hy).elim⟩
    · intro h
      cases x with
      | nil => rfl
      | cons y ys =>
        have := h.2 y (by simp)
        omega
  | n + 1 => by
    rw [lotsN_succ, List.mem_append, List.mem_map]
    constructor
    · rintro (h | ⟨l, h, rfl⟩)
      · exact (mem_lotsN.mp h).up (by omega)
      · have z := mem_lotsN.mp h
        refine ⟨List.pairwise_append.mpr ⟨z.1, by simp, fun a ha b hb => ?_⟩, fun y hy => ?_⟩
        · rw
                [List.mem_singleton.mp hb]
          exact (z.2 a ha).2
        · rcases List.mem_append.mp hy with q | q
          · have := z.2 y q
            omega
          · rw [List.mem_singleton.mp q]
            omega
    · intro h
      by_cases hn : (n : Int) ∈ x
      · right
        have hne : x ≠ [] := fun z => by
          rw [z] at hn
          exact (List.not_mem_nil hn).elim
        have e :=
                List.dropLast_concat_getLast hne
        have hp := h.1
        rw [← e] at hp
        have hp2 := List.pairwise_append.mp hp
        have hlast : x.getLast hne = (n : Int) := by
          have h1 := (h.2 _ (List.getLast_mem hne)).2
          rw [← e] at hn
          rcases List.mem_append.mp hn with q | q
          · have := hp2.2.2 _ q _ (List.mem_singleton.mpr rfl)
            omega
          · exact (List.mem_singleton.mp q).symm
        refine ⟨x.dropLast, mem_lotsN.mpr ⟨hp2.1, fun y hy => ⟨(h.2 y (List.dropLast_subset x hy)).1, ?_⟩⟩, by rw [← hlast]; exact e⟩
        have := hp2.2.2 y hy _ (List.mem_singleton.mpr rfl)
        omega
      · left
        refine mem_lotsN.mpr ⟨h.1, fun y hy => ⟨(h.2 y hy).1, ?_⟩⟩
        have h1 := (h.2 y hy).2
        have h2 : y ≠ n := fun z => hn (z ▸ hy)
        omega
theorem lotsN_nodup : ∀ n : Nat, (lotsN n).Nodup
  | 0 => by
    show ([[]] : List Lot).Nodup
    simp
  | n + 1 => by
    rw [lotsN_succ]
    refine List.nodup_append.mpr ⟨lotsN_nodup n, ?_, ?_⟩
    · exact List.Pairwise.map _ (fun a b hne e => hne (by simpa using e)) (lotsN_nodup n)
    · intro a ha b hb e
      obtain ⟨l, hl, rfl⟩ := List.mem_map.mp hb
      have := (mem_lotsN.mp ha).2 n (by rw [e]; simp)
      omega
theorem mem_lots {m : Int} (h0 : 0 ≤ m) {x : Lot} : x ∈ lots m ↔ LotOk m x := by
  unfold lots
  rw [mem_sortT, lotsRaw_eq, mem_lotsN, show ((m.toNat : Nat) : Int) = m by omega]
theorem le_nodup_lt {ls : List Lot} (h : ls.Pairwise (· ≤ ·)) (nd : ls.Nodup) : ls.Pairwise (· < ·) := by
  refine (h.and nd).imp ?_
  intro a b z
  exact Std.lt_of_le_of_ne z.1 z.2
theorem sortT_nodup {ls : List Lot} (h : ls.Nodup) : (sortT ls).Nodup := (List.mergeSort_perm _ _).nodup_iff.mpr h
theorem lots_lt (m : Int) : (lots m).Pairwise (· < ·) := le_nodup_lt (sortT_pw _) (sortT_nodup (lotsN_nodup _))
theorem lots_len {m : Int} (h : m ≤ 6) : (lots m).length ≤ 64 := by
  have e : ∀ n : Nat, (lotsN n).length = 2 ^ n := by
    intro n
    induction n with
    | zero => rfl
    | succ n ih =>
      rw [lotsN_succ, List.length_append, List.length_map, ih, Nat.pow_succ]
      omega
  unfold lots
  rw [sortT_len, lotsRaw_eq, e]
  exact Nat.pow_le_pow_right (by decide) (show m.toNat ≤ 6 by omega)
/-- the wires of all houses are the lots of two -/
theorem lots_two {m : Int} (h : ManyOk m) : (lots m).filter (fun l => decide ((l.length : Int) = 2)) = (mesh m).map pl := by
  have pw2 : ((mesh m).map pl).Pairwise (· < ·) := by
    have h1 := h.1
    have h2 := h.2
    have : m = 1 ∨ m = 2 ∨ m = 3 ∨ m = 4 ∨ m = 5 ∨ m = 6 := by omega
    rcases this with rfl | rfl | rfl | rfl | rfl | rfl <;> decide +kernel
  have pw1 : ((lots m).filter fun l => decide ((l.length : Int) = 2)).Pairwise (· < ·) := (lots_lt m).filter _
  have nd : ∀ {ls : List Lot}, ls.Pairwise (· < ·) → ls.Nodup := fun z => z.imp fun {a b} y => show a ≠ b from fun e => lt_irr a (by rw [← e] at y; exact y)
  refine ((List.perm_ext_iff_of_nodup (nd pw1) (nd pw2)).mpr fun x => ?_).eq_of_pairwise (fun a b _ _ h3 h4 => absurd (Std.lt_trans h3 h4) (lt_irr a)) pw1 pw2
  rw [List.mem_filter, mem_lots (by have := h.1; omega), List.mem_map, decide_eq_true_eq]
  constructor
  · rintro ⟨h1, h2⟩
    match x, h1, h2 with
    | [a, b], h1, _ =>
      have z1 := h1.2 a (by simp)
      have z2 := h1.2 b (by simp)
      have z3 : a < b := by simpa using h1.1
      exact ⟨(a, b), (mem_mesh (by have := h.1; omega)).mpr ⟨z1.1, z3, z2.2⟩, rfl⟩
    | [], _, h2 => simp at h2
    | [a], _, h2 => simp at h2
    | a :: b :: c :: r, _, h2 =>
      simp only [List.length_cons] at h2
      omega
  · rintro ⟨p, hp, rfl⟩
    have z := (mem_mesh (by have := h.1; omega)).mp hp
    obtain ⟨a, b⟩ := p
    have z1 : 0 ≤ a := z.1
    have z2 : a < b := z.2.1
    have z3 : b < m := z.2.2
    refine ⟨⟨by simpa [pl] using z2, fun y hy => ?_⟩, rfl⟩
    have : y = a ∨ y = b := by simpa [pl] using hy
    omega
end Mi
/-! ## Run10 -/
namespace Dy
open PySem L2 PyProof.Rows Mi
local macro_rules | `(tactic| trivial) => `(tactic| (repeat (first | exact Le.stop | apply Le.same | apply Le.drop)); done)
section
variable {P : Program} {w : World} {K : Fg} {Γ : Ctx} {ta tb tc te : TE}
theorem lots_wires {H : Hp} : ∀ {vs : List V} {ws : List Wire}, Paired (Enc.R K H) vs (ws.map pl) → Paired (Enc.R K H) vs ws
  | _, [], h => by
    cases h
    exact .nil
  | _, x :: xs, h => by
    cases h with
    | cons r t => exact .cons (list_pair (x := x.1) (y := x.2) r) (lots_wires t)
theorem EvN.wires {ls : List Lot} {ws : List Wire} (h : EvN K te Γ (Lst.mk ls)) (e : ls = ws.map pl) : EvN K te Γ (Lst.mk ws) := fun B F σ H k Q q => h B F σ H k Q fun v H' e1 r n => by
  subst e
  obtain ⟨a, vs, rfl, h2, h3, h4⟩ := r
  exact q _ H' e1 ⟨a, vs, rfl, h2, by rw [List.length_map] at h3; exact h3, lots_wires h4⟩ n
theorem run__law_mesh (x1 : Int) (hp : ManyOk x1) : Run K (rd__law_mesh P w K) [.fz x1, .any] (.ret (Lst.mk (mesh x1)) []) := by
  have h1 := hp.1
  have h2 := hp.2
  refine r_retN (EvN.wires (ev_lc (f := fun (l : Lot) => l) (p := fun l => decide ((l.length : Int) = 2)) (ei_seq (Ev.sqL (EvN.ev (ev_sp1 (ea_cons (ev_fz rfl) ea_nil) ⟨by omega, h2⟩)))) (fun x hx => eg_name) (fun x hx => (et_test (ev_eqU (α := Int) (ev_len (Ev.sqT (ev_fz rfl))) ev_int))) (fun x hx hp => (ev_fz rfl))) ?_)
  rw [List.map_id']
  exact lots_two hp
theorem run__law_divided (x1 : Int) (x2 : Sq Wire) (x3 : Lst Lot) (hp : -1000 ≤ x1 ∧ x1 ≤ 1000 ∧ WaysOk x2.l) (hl : x3.l.length ≤ 1000) : Run K (rd__law_divided P w K) [.fz x1, .bs x2, .bs x3, .any, .any, .any] (.ret (Lst.mk (divided x1 x2.l x3.l)) []) := by
  obtain ⟨net⟩ := x2
  obtain ⟨fe⟩ := x3
  have hl : fe.length ≤ 1000 := hl
  refine r_seq (r_setL (ev_lst (eal_nil (α := Lot)))) ?_
  refine r_seq (r_forN (xs := fe) (S := fun pre => [.fz x1, .bs (Sq.mk net), .bs (Lst.mk fe), .ol (pre.filter (dividedBy x1 net)), .any, .any]) (ef_baseL rfl) (by trivial) (fun pre x => eg_name) (fun pre x post e => ?_)) ?_
  · rw [List.filter_append]
    refine r_seq (r_set (EvN.ev (ev_sp2 (ea_cons (ev_fz rfl) (ea_cons (ev_fz rfl) ea_nil)) ⟨hp.1, hp.2.1⟩))) ?_
    have fin : dividedBy x1 net x = true → [x].filter (dividedBy x1 net) = [x] := fun z => by rw [List.filter_cons, if_pos z]; rfl
    have fin0 : dividedBy x1 net x = false → [x].filter (dividedBy x1 net) = [] := fun z => by rw [List.filter_cons, if_neg (by rw [z]; decide)]; rfl
    refine r_if (b := dividedBy x1 net x) (et_and (et_test (ev_gt (ev_len (Ev.sqT (ev_fz rfl))) ev_int)) (fun h9 => (et_test (ev_lt (ev_len (Ev.sqL (EvN.ev (ev_sp3 (ea_cons (ev_bs rfl) (ea_cons (ev_fz rfl) (ea_cons (ev_at (Ev.sqT (ev_fz rfl)) ev_int ?_) ea_nil))) hp.2.2)))) (ev_len (Ev.sqT (ev_fz rfl))))))) (fun h2 => ?_) (fun h2 => ?_)
    · have := of_decide_eq_true h9
      omega
    · rw [fin h2]
      refine r_le (r_app rfl (ev_fz rfl) ?_) (by trivial)
      have := congrArg List.length e
      rw [List.length_append, List.length_cons] at this
      refine Nat.lt_of_le_of_lt (List.length_filter_le _ _) ?_
      unfold LIM
      omega
    · rw [fin0 h2, List.append_nil]
      exact r_le r_next (by trivial)
  · exact r_retV rfl
theorem ev_ones {i : Int} (h : Ev K tb Γ i) (h2 : 2 ≤ i ∧ i ≤ 1000) : Ev K (tOp (rMulU K) (tTup (tCons (tC (.int 1)) tNil)) tb) Γ (List.replicate i.toNat (1 : Int)) := by
  have z := ev_repT (ev_tup (eal_cons (ev_int (K := K) (Γ := Γ) (i := 1)) eal_nil)) h (by simp) h2.1 h2.2 rfl
  refine z.is ?_
  generalize i.toNat = n
  induction n with
  | zero => rfl
  | succ n ih =>
    rw [List.replicate_succ, List.replicate_succ, List.flatten_cons, ih]
    rfl
theorem run__law_left (x1 : Int) (x2 : List Lot) (x3 x4 : Int) (hp : Fear6 x1 x2 ∧ 2 < x1 ∧ PairOk x1 x3 x4) (h31 : x2.length ≤ 31) (g1 : GroundOk (List.replicate x1.toNat 1, x2)) (g2 : GroundOk (leftIn (List.replicate x1.toNat 1, x2) (max x3 x4))) (g3 : (leftIn (List.replicate x1.toNat 1, x2) (max x3 x4)).1.length = x1.toNat - 1) (g4 : (leftIn (List.replicate x1.toNat 1, x2) (max x3 x4)).2.length ≤ 31) : Run K (rd__law_left P w K) [.fz x1, .fz x2, .fz x3, .fz x4, .any] (.ret (lawLeft x1 x2 x3 x4) []) := by
  obtain ⟨⟨⟨m1, m2⟩, -, -⟩, m3, p1, p2, p3, p4, p5⟩ := hp
  have hl : (List.replicate x1.toNat (1 : Int)).length = x1.toNat := List.length_replicate
  have c1 : 1 < (List.replicate x1.toNat (1 : Int)).length ∧ 0 ≤ max x3 x4 ∧ max x3 x4 < ((List.replicate x1.toNat (1 : Int)).length : Int) := by
    rw [hl]
    omega
  have c2 : 1 < (leftIn (List.replicate x1.toNat 1, x2) (max x3 x4)).1.length ∧ 0 ≤ min x3 x4 ∧ min x3 x4 < ((leftIn (List.replicate x1.toNat 1, x2) (max x3 x4)).1.length : Int) := by
    rw [g3]
    omega
  refine r_seq (r_set (EvN.ev (ev_sp2 (ea_cons (ev_pair (α := List Int) (β := List Lot) (ev_ones (ev_fz rfl) (by omega)) (ev_fz rfl)) (ea_cons (ev_max2 (EvN.ev (ev_lst (eal_cons (ev_fz rfl) (eal_cons (ev_fz rfl) eal_nil))))) ea_nil)) ⟨g1, h31, c1⟩))) ?_
  exact r_retIs (ev_snd (EvN.ev (ev_sp2 (ea_cons (ev_fz rfl) (ea_cons (ev_min2 (EvN.ev (ev_lst (eal_cons (ev_fz rfl) (eal_cons (ev_fz rfl) eal_nil))))) ea_nil)) ⟨g2, g4, c2⟩))) rfl
end
section
variable {P : Program} {w : World} {K : Fg} {γ : Type} [Enc γ]
theorem run_lstep {net : List Wire} {lot : Lot} {a b k m : Int} {lay : List Int} {st : List Int × List Int} {x p : Wire} (hk : k = 0 ∨ k = 1) (h1 : (if k = 0 then x.1 else x.2) = p.1) (h2 : (if 1 - k = 0 then x.1 else x.2) = p.2) (hl : st.1.length < LIM ∧ st.2.length < LIM) :
    Run K (tSeq (tAsg (tOp (rIxU K) (tVar 8) (tOp (rI0 fun i j => V.int (i - j)) (tC (.int 1)) (tVar 9))) (gName 10)) (tIfS (tAnd (tTest (tOp (rInU K false) (tOp (rIxU K) (tVar 8) (tVar 9)) (tVar 4))) (tAnd (tTest (tOp (rInU K true) (tVar 10) (tVar 5))) (tTest (tOp (rInU K true) (tVar 10) (tVar 1))))) (tSeq (tDrop (tBM K "list" rAppend (tVar 7) (tCons (tVar 10) tNil))) (tDrop (tBM K "list" rAppend (tVar 5) (tCons (tVar 10) tNil)))) tNext))
      [.fz net, .fz lot, .fz a, .fz b, .ol lay, .ol st.2, .fz m, .ol st.1, .fz x, .fz k, .any] (.next [.fz net, .fz lot, .fz a, .fz b, .ol lay, .ol (lstep lot lay st p).2, .fz m, .ol (lstep lot lay st p).1, .fz x, .any, .any] : Out γ) := by
  refine r_seq (r_set (x := p.2) ((ev_pix (α := Int) (ev_fz rfl) (ev_sub ev_int (ev_fz rfl)) (by omega)).is h2)) ?_
  unfold lstep
  refine r_if (et_and (et_test (ev_in (x := p.1) ((ev_pix (α := Int) (ev_fz rfl) (ev_fz rfl) hk).is h1) (Ev.sqL (ev_ow rfl)))) (fun _ => (et_and (et_test (ev_notIn (α := Int) (ev_fz rfl) (Ev.sqL (ev_ow rfl)))) (fun _ => (et_test (ev_notIn (α := Int) (xs := lot) (ev_fz rfl) (Ev.sqT (ev_fz rfl)))))))) (fun h4 => ?_) (fun h4 => ?_)
  · rw [if_pos h4]
    exact r_seq (r_app rfl (ev_fz rfl) hl.1) (r_le (r_app rfl (ev_fz rfl) hl.2) (by trivial))
  · rw [if_neg (by rw [h4]; decide)]
    exact r_le r_next (by trivial)
/-- what holds in the search of how long a way is -/
def longI (net : List Wire) (lot : Lot) (a b r : Int) (s : (List Int × List Int) × Int) : Prop := Walked net a s.1.2 ∧ s.1.1.length ≤ 4000 ∧ ∃ n, (2 * unseen net s.1.2 + if s.1.1 = [] then 0 else 1) < n ∧ lloop net lot b n s.1.1 s.1.2 s.2 = r
theorem run__law_long (x1 : List Wire) (x2 : Lot) (x3 x4 : Int) (hp : WaysOk x1) : Run K (rd__law_long P w K) [.fz x1, .fz x2, .fz x3, .fz x4, .any, .any, .any, .any, .any, .any, .any] (.ret (long x1 x2 x3 x4) []) := by
  have hn : x1.length ≤ 1000 := hp
  have hh := houses_len x1
  refine r_seq (r_setL (ev_lst (eal_cons (ev_fz rfl) eal_nil))) ?_
  refine r_seq (r_setL (ev_lst (eal_cons (ev_fz rfl) eal_nil))) ?_
  refine r_seq (r_set ev_int) ?_
  refine r_while (δ := (List Int × List Int) × Int) (S := fun s => [.fz x1, .fz x2, .fz x3, .fz x4, .ol s.1.1, .ol s.1.2, .fz s.2, .any, .any, .any, .any]) (s0 := (([x3], [x3]), 1)) (Iv := longI x1 x2 x3 x4 (long x1 x2 x3 x4)) (μ := fun s => 2 * unseen x1 s.1.2 + if s.1.1 = [] then 0 else 1) (ts := fun s => !decide (Lst.mk s.1.1 = Lst.mk [])) (by trivial) ?_ (fun s hs => (et_test (ev_neU (α := (Lst Int)) (ev_ow rfl) (EvN.ev (ev_lst eal_nil))))) (fun s hs ht => ?_) (fun s hs ht => ?_)
  · refine ⟨⟨by simp, by simp⟩, by show 1 ≤ 4000; omega, _, ?_, rfl⟩
    have : unseen x1 [x3] ≤ (houses x1).length := List.length_filter_le _ _
    show 2 * unseen x1 [x3] + 1 < 2 * (houses x1).length + 2
    omega
  · obtain ⟨wk, hla, n, hm, hr⟩ := hs
    obtain ⟨⟨lay, seen⟩, many⟩ := s
    have hne : lay ≠ [] := by simpa using ht
    have hm : (2 * unseen x1 seen + if lay = [] then 0 else 1) < n := hm
    rw [if_neg hne] at hm
    cases n with
    | zero => omega
    | succ n =>
      have hr : lloop x1 x2 x4 (n + 1) lay seen many = long x1 x2 x3 x4 := hr
      rw [lloop, if_neg hne] at hr
      by_cases hc : x4 ∈ lay
      · rw [if_pos hc] at hr
        rw [← hr]
        exact .inl (r_ifS (et_test (ev_in (ev_fz rfl) (Ev.sqL (ev_ow rfl)))) (fun h2 => r_seqR (r_ret (ev_fz rfl))) (fun h2 => absurd hc (of_decide_eq_false h2)))
      · rw [if_neg hc] at hr
        have g0 : Ln x1 x3 (unseen x1 seen) ([], seen) := ⟨wk, by simp⟩
        have g1 := g0.fold (lot := x2) (lay := lay) (ps := x1) fun p hp => hp
        have u := g1.un
        have ub : unseen x1 seen ≤ (houses x1).length := List.length_filter_le _ _
        have dec : (2 * unseen x1 (x1.foldl (lwire x2 lay) ([], seen)).2 + if (x1.foldl (lwire x2 lay) ([], seen)).1 = [] then 0 else 1) ≤ 2 * unseen x1 seen := by
          split
          · omega
          · rename_i c
            have := List.length_pos_iff.mpr c
            omega
        refine .inr ⟨(x1.foldl (lwire x2 lay) ([], seen), many + 1), ⟨g1.wk, ?_, n, ?_, hr⟩, ?_, ?_⟩
        · show (x1.foldl (lwire x2 lay) ([], seen)).1.length ≤ 4000
          omega
        · show (2 * unseen x1 (x1.foldl (lwire x2 lay) ([], seen)).2 + if (x1.foldl (lwire x2 lay) ([], seen)).1 = [] then 0 else 1) < n
          omega
        · show (2 * unseen x1 (x1.foldl (lwire x2 lay) ([], seen)).2 + if (x1.foldl (lwire x2 lay) ([], seen)).1 = [] then 0 else 1) < 2 * unseen x1 seen + if lay = [] then 0 else 1
          rw [if_neg hne]
          omega
        · refine r_ifS (et_test (ev_in (ev_fz rfl) (Ev.sqL (ev_ow rfl)))) (fun h2 => absurd (of_decide_eq_true h2) hc) (fun h2 => r_skip ?_)
          refine r_seq (r_setL (ev_lst (eal_nil (α := Int)))) ?_
          refine r_seq (r_forN (S := fun pre => [.fz x1, .fz x2, .fz x3, .fz x4, .ol lay, .ol (pre.foldl (lwire x2 lay) ([], seen)).2, .fz many, .ol (pre.foldl (lwire x2 lay) ([], seen)).1, .any, .any, .any]) (ef_tup (ev_fz rfl)) (by trivial) (fun pre x => eg_name) (fun pre x post e => ?_)) ?_
          · have gp := g0.fold (lot := x2) (lay := lay) (ps := pre) fun p hp => by rw [e]; exact List.mem_append_left _ hp
            rw [List.foldl_append]
            show Run K _ _ (.next [.fz x1, .fz x2, .fz x3, .fz x4, .ol lay, .ol (lwire x2 lay (pre.foldl (lwire x2 lay) ([], seen)) x).2, .fz many, .ol (lwire x2 lay (pre.foldl (lwire x2 lay) ([], seen)) x).1, .any, .any, .any])
            have s1 := gp.wk.small hn
            have gx := gp.step (lot := x2) (lay := lay) (p := x) (mem_houses.mpr ⟨x, mem_split e, .inr rfl⟩)
            have s2 := gx.wk.small hn
            have u1 := gp.un
            have u2 := gx.un
            generalize pre.foldl (lwire x2 lay) ([], seen) = st at s1 s2 u1 u2 ⊢
            unfold lwire
            refine r_le (r_two (run_lstep (p := x) (.inl rfl) rfl rfl ⟨by unfold LIM; omega, by unfold LIM; omega⟩) (r_from (by trivial) (run_lstep (k := 1) (x := x) (p := (x.2, x.1)) (.inr rfl) rfl rfl ⟨by unfold LIM; omega, by unfold LIM; omega⟩))) (by trivial)
          · exact r_seq (r_mov rfl) (r_le (r_set (ev_addI (ev_fz rfl) ev_int)) (by trivial))
  · obtain ⟨wk, hla, n, hm, hr⟩ := hs
    rw [← hr]
    have he : s.1.1 = [] := by
      have := of_decide_eq_true (by simpa using ht : decide (Lst.mk s.1.1 = Lst.mk []) = true)
      exact Lst.mk.inj this
    refine r_retIs ev_int ?_
    cases n with
    | zero => rfl
    | succ n => rw [lloop, if_pos he]
end
end Dy
/-! ## Dl14 -/
namespace Dy
open PySem L2 PyProof.Rows
section
variable {P : Program} {w : World} {K : Fg} {mg : Str → Option Value} {base : Heap} {f : Addr} {fd : FuncData} {name qual : Str} {st : Stmt} {N : List Str} {k : Nat}
variable {α1 α2 α3 α4 α5 α6 γ : Type}
abbrev BodyG (P : Program) (w : World) (K : Fg) (mg : Str → Option Value) (base : Heap) (N : List Str) (qual : Str) (st : Stmt) (f : Addr) (k : Nat) (good : TS → Prop) : Prop :=
  ∀ (cdv : Value) (A : Around) (outer : List Env) (s : Shared) (H : Hp) (E : XK), A.guards = some [] → Room k (A.deeper (envOfC qual (defScope st) s.heap.objs.size f cdv)) → ∃ t, PSs (cxOf CX0 P w K mg base N qual (defScope st) f cdv A outer s H E).nox (defBody st) t ∧ good t
theorem fnG4 [Par α1] [Par α2] [Par α3] [Par α4] [Enc γ] {p1 p2 p3 p4 : Str} {pre : α1 → α2 → α3 → α4 → Prop} {g : α1 → α2 → α3 → α4 → γ} (F : FnP K name qual st f fd) (S : FnScope N [p1, p2, p3, p4] (defScope st)) (hN : 4 ≤ N.length)
    (hb : BodyG P w K mg base N qual st f k fun t => ∀ x1 x2 x3 x4, pre x1 x2 x3 x4 → Run K t ([Par.ent x1, Par.ent x2, Par.ent x3, Par.ent x4] ++ anys (N.length - 4)) (.ret (g x1 x2 x3 x4) [])) : FnG P w K mg base (k + 1) f fd [p1, p2, p3, p4] (sp4 K pre g) :=
  fng_of F S (fun vs H Q E h => by
    obtain ⟨_, ⟨_, _, _, _, ⟨_, _, rfl, _, _, _, rfl, _, _, _, rfl, _, _, _, rfl, _, rfl⟩, _⟩, _⟩ := h
    rfl) fun cdv A outer s H vs Q E hG hr h => by
    obtain ⟨t, h1, h2⟩ := hb cdv A outer s H E hG hr
    obtain ⟨y, ⟨x1, x2, x3, x4, ⟨v1, _, rfl, r1, v2, _, rfl, r2, v3, _, rfl, r3, v4, _, rfl, r4, rfl⟩, hp, rfl⟩, q⟩ := h
    exact ⟨t, PSs.nox h1, go_run (Γ := [Par.ent x1, Par.ent x2, Par.ent x3, Par.ent x4]) hN (.cons (Par.ok r1) (Par.noow x1) (.cons (Par.ok r2) (Par.noow x2) (.cons (Par.ok r3) (Par.noow x3) (.cons (Par.ok r4) (Par.noow x4) .nil)))) (h2 x1 x2 x3 x4 hp) q⟩
theorem fnG5 [Par α1] [Par α2] [Par α3] [Par α4] [Par α5] [Enc γ] {p1 p2 p3 p4 p5 : Str} {pre : α1 → α2 → α3 → α4 → α5 → Prop} {g : α1 → α2 → α3 → α4 → α5 → γ} (F : FnP K name qual st f fd) (S : FnScope N [p1, p2, p3, p4, p5] (defScope st)) (hN : 5 ≤ N.length)
    (hb : BodyG P w K mg base N qual st f k fun t => ∀ x1 x2 x3 x4 x5, pre x1 x2 x3 x4 x5 → Run K t ([Par.ent x1, Par.ent x2, Par.ent x3, Par.ent x4, Par.ent x5] ++ anys (N.length - 5)) (.ret (g x1 x2 x3 x4 x5) [])) : FnG P w K mg base (k + 1) f fd [p1, p2, p3, p4, p5] (sp5 K pre g) :=
  fng_of F S (fun vs H Q E h => by
    obtain ⟨_, ⟨_, _, _, _, _, ⟨_, _, rfl, _, _, _, rfl, _, _, _, rfl, _, _, _, rfl, _, _, _, rfl, _, rfl⟩, _⟩, _⟩ := h
    rfl) fun cdv A outer s H vs Q E hG hr h => by
    obtain ⟨t, h1, h2⟩ := hb cdv A outer s H E hG hr
    obtain ⟨y, ⟨x1, x2, x3, x4, x5, ⟨v1, _, rfl, r1, v2, _, rfl, r2, v3, _, rfl, r3, v4, _, rfl, r4, v5, _, rfl, r5, rfl⟩, hp, rfl⟩, q⟩ := h
    exact ⟨t, PSs.nox h1, go_run (Γ := [Par.ent x1, Par.ent x2, Par.ent x3, Par.ent x4, Par.ent x5]) hN (.cons (Par.ok r1) (Par.noow x1) (.cons (Par.ok r2) (Par.noow x2) (.cons (Par.ok r3) (Par.noow x3) (.cons (Par.ok r4) (Par.noow x4) (.cons (Par.ok r5) (Par.noow x5) .nil))))) (h2 x1 x2 x3 x4 x5 hp) q⟩
theorem fnG6 [Par α1] [Par α2] [Par α3] [Par α4] [Par α5] [Par α6] [Enc γ] {p1 p2 p3 p4 p5 p6 : Str} {pre : α1 → α2 → α3 → α4 → α5 → α6 → Prop} {g : α1 → α2 → α3 → α4 → α5 → α6 → γ} (F : FnP K name qual st f fd) (S : FnScope N [p1, p2, p3, p4, p5, p6] (defScope st)) (hN : 6 ≤ N.length)
    (hb : BodyG P w K mg base N qual st f k fun t => ∀ x1 x2 x3 x4 x5 x6, pre x1 x2 x3 x4 x5 x6 → Run K t ([Par.ent x1, Par.ent x2, Par.ent x3, Par.ent x4, Par.ent x5, Par.ent x6] ++ anys (N.length - 6)) (.ret (g x1 x2 x3 x4 x5 x6) [])) : FnG P w K mg base (k + 1) f fd [p1, p2, p3, p4, p5, p6] (sp6 K pre g) :=
  fng_of F S (fun vs H Q E h => by
    obtain ⟨_, ⟨_, _, _, _, _, _, ⟨_, _, rfl, _, _, _, rfl, _, _, _, rfl, _, _, _, rfl, _, _, _, rfl, _, _, _, rfl, _, rfl⟩, _⟩, _⟩ := h
    rfl) fun cdv A outer s H vs Q E hG hr h => by
    obtain ⟨t, h1, h2⟩ := hb cdv A outer s H E hG hr
    obtain ⟨y, ⟨x1, x2, x3, x4, x5, x6, ⟨v1, _, rfl, r1, v2, _, rfl, r2, v3, _, rfl, r3, v4, _, rfl, r4, v5, _, rfl, r5, v6, _, rfl, r6, rfl⟩, hp, rfl⟩, q⟩ := h
    exact ⟨t, PSs.nox h1, go_run (Γ := [Par.ent x1, Par.ent x2, Par.ent x3, Par.ent x4, Par.ent x5, Par.ent x6]) hN (.cons (Par.ok r1) (Par.noow x1) (.cons (Par.ok r2) (Par.noow x2) (.cons (Par.ok r3) (Par.noow x3) (.cons (Par.ok r4) (Par.noow x4) (.cons (Par.ok r5) (Par.noow x5) (.cons (Par.ok r6) (Par.noow x6) .nil)))))) (h2 x1 x2 x3 x4 x5 x6 hp) q⟩
end
end Dy
/-! ## Sp3 -/
namespace Dy
open PySem L2 PyProof.Rows Mi
/-- small lots -/
def Small (ls : List Lot) : Prop := ls.length ≤ 100 ∧ ∀ l ∈ ls, l.length ≤ 10 ∧ ∀ x ∈ l, -1000 ≤ x ∧ x ≤ 1000
/-! the law's own comparisons: what they need is asked, in plain words -/
structure PairLaw (m : Int) (net : List Wire) (fs : List Lot) (fe : List Lot) (a b : Int) : Prop where
  net6 : Net6 m net
  fears : Fear6 m fs
  pair : PairOk m a b
  few : fe.length ≤ 64 ∧ Few (fe.filter fun l => !decide (a ∈ l) && !decide (b ∈ l))
  same : between fs a b = lawBetween fe a b
  small : Small (between fs a b)
  send : canSend net fs a b = decide (((lawBetween fe a b).filter fun l => !decide (b ∈ joined net l a)) = [])
structure LeftOk (m : Int) (fs : List Lot) (a b : Int) : Prop where
  fears : Fear6 m fs
  big : 2 < m
  pair : PairOk m a b
  h31 : fs.length ≤ 31
  g1 : GroundOk (List.replicate m.toNat 1, fs)
  g2 : GroundOk (leftIn (List.replicate m.toNat 1, fs) (max a b))
  g3 : (leftIn (List.replicate m.toNat 1, fs) (max a b)).1.length = m.toNat - 1
  g4 : (leftIn (List.replicate m.toNat 1, fs) (max a b)).2.length ≤ 31
/-- the sides with both -/
def jointOf (m : Int) (net : List Wire) (a b : Int) (ls : List Lot) : List Lot := ls.foldl (fun acc l => acc ++ (sides m net l).filter fun s => decide (a ∈ s) && decide (b ∈ s)) []
structure DrawnLaw (m : Int) (net : List Wire) (fs : List Lot) (fe : List Lot) (a b : Int) : Prop where
  net6 : Net6 m net
  fears : Fear6 m fs
  pair : PairOk m a b
  few : fe.length ≤ 64 ∧ Few (fe.filter fun l => !decide (a ∈ l) && !decide (b ∈ l))
  lotok : ∀ l ∈ lawBetween fe a b, LotOk m l
  left : 2 < m → LeftOk m fs a b ∧ lawLeft m fs a b = sortT (anew (lawBetween fe a b) a b) ∧ Small (lawLeft m fs a b)
  few2 : ∀ ls, (∃ r, lawBetween fe a b = ls ++ r) → (jointOf m net a b ls).length ≤ 1000
  few3 : ∀ l ∈ lawBetween fe a b, (sides m net l).length ≤ 1000
  send : canSend net fs a b = decide (((jointOf m net a b (lawBetween fe a b)).length : Int) = ((lawBetween fe a b).length : Int))
section
variable (K : Fg)
def sp__law_left : Sp := sp4 K (fun (m : Int) (fs : List Lot) (a b : Int) => LeftOk m fs a b) lawLeft
def sp__law_drawn_pair : Sp := sp6 K (fun (m : Int) (net : List Wire) (fs : List Lot) (fe : Lst Lot) (a b : Int) => DrawnLaw m net fs fe.l a b) (fun _ _ _ _ _ _ => true)
/-- a way that the law takes -/
structure WayFits (net : List Wire) (lot : Lot) (a b : Int) (w : Lot) : Prop where
  few : WaysOk net
  len : 0 < w.length ∧ w.length ≤ 60
  long : (w.length : Int) = long net lot a b
  house : ∀ h ∈ w, (0 ≤ h ∧ h < 6) ∧ h ∉ lot
  wire : ∀ k : Int, 1 ≤ k → k < w.length → (min (at' w (k - 1)) (at' w k), max (at' w (k - 1)) (at' w k)) ∈ net
  ends : at' w 0 = a ∧ lastD w = b
  nodup : (ssortI w).length = w.length
def sp__law_way_fits : Sp := sp6 K (fun (net : List Wire) (lot : Lot) (a b : Int) (w : Lot) (_ : Bool) => WayFits net lot a b w) (fun _ _ _ _ _ _ => true)
def sp__law_pair : Sp := sp6 K (fun (m : Int) (net : List Wire) (fs : List Lot) (fe : Lst Lot) (a b : Int) => PairLaw m net fs fe.l a b) (fun _ _ _ _ _ _ => true)
end
end Dy
/-! ## Tm4 -/
namespace Dy
open PySem L2 PyProof.Rows
section
variable {P : Program} {w : World} {K : Fg} {mg : Str → Option Value} {base : Heap} {f : Addr}

def rd__law_pair (P : Program) (w : World) (K : Fg) : TS := (tSeq (tAsg (tCall (sp__law_between K) [] E0 (tCons (tVar 3) (tCons (tVar 4) (tCons (tVar 5) tNil)))) (gName 6)) (tSeq (tIfS (tTest (tOp (rNeU K) (tCB (rRepr K) (tCons (tCall (sp_between_lots K) [] E0 (tCons (tVar 0) (tCons (tVar 2) (tCons (tVar 4) (tCons (tVar 5) tNil))))) tNil)) (tCB (rRepr K) (tCons (tVar 6) tNil)))) (tRet (tC (.bl false))) tNext) (tSeq (tAsg (tLc (iSeq K (tVar 6)) (gName 8) (tTest (tOp (rInU K true) (tVar 5) (tCall (sp__law_joined K) [] E0 (tCons (tVar 1) (tCons (tVar 8) (tCons (tVar 4) tNil)))))) (tVar 8) [8]) (gName 7)) (tRet (tOp (rEqU K) (tCB (rRepr K) (tCons (tCall (sp_can_send K) [] E0 (tCons (tVar 0) (tCons (tVar 1) (tCons (tVar 2) (tCons (tVar 4) (tCons (tVar 5) tNil)))))) tNil)) (tCB (rRepr K) (tCons (tOp (rEqU K) (tVar 7) (tLst tNil)) tNil)))))))
theorem sc__law_pair : FnScope ["_law_many", "_law_wires", "_law_fears_here", "_law_feared_here", "_law_one", "_law_other", "_law_lots_here", "_law_apart", "_law_lot"] ["_law_many", "_law_wires", "_law_fears_here", "_law_feared_here", "_law_one", "_law_other"] (defScope Hd.s__law_pair) := ⟨rfl, rfl, rfl, by decide +kernel, rfl, by decide +kernel, by decide +kernel⟩
theorem tm__law_pair (T : Hd.Tx K mg) (c_can_send : Cal P w K mg base 9 "can_send" ["many", "net", "fears", "one", "other"] (sp_can_send K)) (c__law_joined : Cal P w K mg base 1 "_law_joined" ["_law_wires", "_law_lot", "_law_house"] (sp__law_joined K)) (c_between_lots : Cal P w K mg base 7 "between_lots" ["many", "fears", "one", "other"] (sp_between_lots K)) (c__law_between : Cal P w K mg base 3 "_law_between" ["_law_feared_here", "_law_one", "_law_other"] (sp__law_between K)) : BodyG P w K mg base ["_law_many", "_law_wires", "_law_fears_here", "_law_feared_here", "_law_one", "_law_other", "_law_lots_here", "_law_apart", "_law_lot"] "_law_pair" Hd.s__law_pair f 9 (fun t => t = rd__law_pair P w K) :=
  fun cdv A outer s H E hG hr => ⟨_, (pss_cons (ps_set (i := 6) sc__law_pair.nd rfl (Or.inl rfl) (pc c__law_between (hr.mono (by decide)) rfl (pa_cons (pv 3) (pa_cons (pv 4) (pa_cons (pv 5) pa_nil))))) (pss_cons (ps_if (pt_cmpR (op_neU hr.units) (pe_callB (cr_repr hG hr.units) (by rfl) T.b_repr (by decide +kernel) (pa_cons (pc c_between_lots (hr.mono (by decide)) rfl (pa_cons (pv 0) (pa_cons (pv 2) (pa_cons (pv 4) (pa_cons (pv 5) pa_nil))))) pa_nil)) (pe_callB (cr_repr hG hr.units) (by rfl) T.b_repr (by decide +kernel) (pa_cons (pv 6) pa_nil)) (nomark _)) (pss_one (ps_ret pe_bl)) pss_nil) (pss_cons (ps_setLc (i := 7) (own := [("_law_lot", 8)]) rfl sc__law_pair.nd rfl rfl (sw_true rfl rfl rfl (by kernel_rfl)) (pi_seq (pv 6)) (blkOk_by (by kernel_rfl)) (fun _ _ _ _ _ => (pg_name (i := 8) sc__law_pair.nd rfl (by first | exact Or.inl rfl | exact Or.inr rfl))) (fun _ _ _ _ _ => (pts_one (pt_cmpR (op_notInU (units65 hr)) (pv 5) (pc c__law_joined (hr.mono (by decide)) rfl (pa_cons (pv 1) (pa_cons (pv 8) (pa_cons (pv 4) pa_nil)))) (by rfl)))) (fun _ _ _ _ _ => (pv 8))) (pss_one (ps_ret (pe_cmpR (op_eqU hr.units) (pe_callB (cr_repr hG hr.units) (by rfl) T.b_repr (by decide +kernel) (pa_cons (pc c_can_send (hr.mono (by decide)) rfl (pa_cons (pv 0) (pa_cons (pv 1) (pa_cons (pv 2) (pa_cons (pv 4) (pa_cons (pv 5) pa_nil)))))) pa_nil)) (pe_callB (cr_repr hG hr.units) (by rfl) T.b_repr (by decide +kernel) (pa_cons (pe_cmpR (op_eqU hr.units) (pv 7) (pe_lst pa_nil) (nomark _)) pa_nil)) (nomark _))))))), rfl⟩
def rd__law_drawn_pair (P : Program) (w : World) (K : Fg) : TS := (tSeq (tAsg (tCall (sp__law_between K) [] E0 (tCons (tVar 3) (tCons (tVar 4) (tCons (tVar 5) tNil)))) (gName 6)) (tSeq (tIfS (tTest (tOp (rI0 fun i j => V.bl (decide (j < i))) (tVar 0) (tC (.int 2)))) (tSeq (tAsg (tCB (rSortU K) (tCons (tCall (sp__law_anew K) [] E0 (tCons (tVar 6) (tCons (tVar 4) (tCons (tVar 5) tNil)))) tNil)) (gName 7)) (tIfS (tTest (tOp (rNeU K) (tCB (rRepr K) (tCons (tCall (sp__law_left K) [] E0 (tCons (tVar 0) (tCons (tVar 2) (tCons (tVar 4) (tCons (tVar 5) tNil))))) tNil)) (tCB (rRepr K) (tCons (tCB (rTupQ K) (tCons (tVar 7) tNil)) tNil)))) (tRet (tC (.bl false))) tNext)) tNext) (tSeq (tAsg (tLst tNil) (gName 8)) (tSeq (tFor (iSeq K (tVar 6)) (gName 9) (tAsg (tOp (rAddU K) (tVar 8) (tLc (iSeq K (tCall (sp_sides_of K) [] E0 (tCons (tVar 0) (tCons (tVar 1) (tCons (tVar 9) tNil))))) (gName 10) (tAnd (tTest (tOp (rInU K false) (tVar 4) (tVar 10))) (tTest (tOp (rInU K false) (tVar 5) (tVar 10)))) (tVar 10) [10])) (gName 8))) (tRet (tOp (rEqU K) (tCB (rRepr K) (tCons (tCall (sp_can_send K) [] E0 (tCons (tVar 0) (tCons (tVar 1) (tCons (tVar 2) (tCons (tVar 4) (tCons (tVar 5) tNil)))))) tNil)) (tCB (rRepr K) (tCons (tOp (rEqU K) (tCB (rLenQ K) (tCons (tVar 8) tNil)) (tCB (rLenQ K) (tCons (tVar 6) tNil))) tNil))))))))
theorem sc__law_drawn_pair : FnScope ["_law_many", "_law_wires", "_law_fears_here", "_law_feared_here", "_law_one", "_law_other", "_law_lots_here", "_law_anew_here", "_law_joint", "_law_lot", "_law_side"] ["_law_many", "_law_wires", "_law_fears_here", "_law_feared_here", "_law_one", "_law_other"] (defScope Hd.s__law_drawn_pair) := ⟨rfl, rfl, rfl, by decide +kernel, rfl, by decide +kernel, by decide +kernel⟩
theorem tm__law_drawn_pair (T : Hd.Tx K mg) (c_can_send : Cal P w K mg base 9 "can_send" ["many", "net", "fears", "one", "other"] (sp_can_send K)) (c_sides_of : Cal P w K mg base 6 "sides_of" ["many", "net", "lot"] (sp_sides_of K)) (c__law_left : Cal P w K mg base 9 "_law_left" ["_law_many", "_law_fears_here", "_law_one", "_law_other"] (sp__law_left K)) (c__law_anew : Cal P w K mg base 1 "_law_anew" ["_law_lots_here", "_law_one", "_law_other"] (sp__law_anew K)) (c__law_between : Cal P w K mg base 3 "_law_between" ["_law_feared_here", "_law_one", "_law_other"] (sp__law_between K)) : BodyG P w K mg base ["_law_many", "_law_wires", "_law_fears_here", "_law_feared_here", "_law_one", "_law_other", "_law_lots_here", "_law_anew_here", "_law_joint", "_law_lot", "_law_side"] "_law_drawn_pair" Hd.s__law_drawn_pair f 9 (fun t => t = rd__law_drawn_pair P w K) :=
  fun cdv A outer s H E hG hr => ⟨_, (pss_cons (ps_set (i := 6) sc__law_drawn_pair.nd rfl (Or.inl rfl) (pc c__law_between (hr.mono (by decide)) rfl (pa_cons (pv 3) (pa_cons (pv 4) (pa_cons (pv 5) pa_nil))))) (pss_cons (ps_if (pt_cmpR op_gt (pv 0) pe_int (nomark _)) (pss_cons (ps_set (i := 7) sc__law_drawn_pair.nd rfl (Or.inl rfl) (pe_callB (cr_sortU hr.units) (by rfl) T.b_sorted (by decide +kernel) (pa_cons (pc c__law_anew (hr.mono (by decide)) rfl (pa_cons (pv 6) (pa_cons (pv 4) (pa_cons (pv 5) pa_nil)))) pa_nil))) (pss_one (ps_if (pt_cmpR (op_neU hr.units) (pe_callB (cr_repr hG hr.units) (by rfl) T.b_repr (by decide +kernel) (pa_cons (pc c__law_left (hr.mono (by decide)) rfl (pa_cons (pv 0) (pa_cons (pv 2) (pa_cons (pv 4) (pa_cons (pv 5) pa_nil))))) pa_nil)) (pe_callB (cr_repr hG hr.units) (by rfl) T.b_repr (by decide +kernel) (pa_cons (pe_callTy call_tupQ (by rfl) T.b_tuple (by decide +kernel) (pa_cons (pv 7) pa_nil)) pa_nil)) (nomark _)) (pss_one (ps_ret pe_bl)) pss_nil))) pss_nil) (pss_cons (ps_set (i := 8) sc__law_drawn_pair.nd rfl (Or.inl rfl) (pe_lst pa_nil)) (pss_cons (ps_for PassesOwn.never rfl (pi_seq (pv 6)) (pg_name (i := 9) sc__law_drawn_pair.nd rfl (Or.inl rfl)) (pss_one (ps_set (i := 8) sc__law_drawn_pair.nd rfl (Or.inl rfl) (pe_op op_addU (pv 8) (pe_lc (own := [("_law_side", 10)]) rfl sc__law_drawn_pair.nd (pi_seq (pc c_sides_of (hr.mono (by decide)) rfl (pa_cons (pv 0) (pa_cons (pv 1) (pa_cons (pv 9) pa_nil))))) (blkOk_by (by kernel_rfl)) (fun _ _ _ _ _ => (pg_name (i := 10) sc__law_drawn_pair.nd rfl (by first | exact Or.inl rfl | exact Or.inr rfl))) (fun _ _ _ _ _ => (pts_one (PW.pt (pw_and (pt_cmpR (op_inU (units65 hr)) (pv 4) (pv 10) (by rfl)) (pw_and1 (pt_cmpR (op_inU (units65 hr)) (pv 5) (pv 10) (by rfl))))))) (fun _ _ _ _ _ => (pv 10))))))) (pss_one (ps_ret (pe_cmpR (op_eqU hr.units) (pe_callB (cr_repr hG hr.units) (by rfl) T.b_repr (by decide +kernel) (pa_cons (pc c_can_send (hr.mono (by decide)) rfl (pa_cons (pv 0) (pa_cons (pv 1) (pa_cons (pv 2) (pa_cons (pv 4) (pa_cons (pv 5) pa_nil)))))) pa_nil)) (pe_callB (cr_repr hG hr.units) (by rfl) T.b_repr (by decide +kernel) (pa_cons (pe_cmpR (op_eqU hr.units) (pe_callB call_lenQ (by rfl) T.b_len PySem.boot_len (pa_cons (pv 8) pa_nil)) (pe_callB call_lenQ (by rfl) T.b_len PySem.boot_len (pa_cons (pv 6) pa_nil)) (nomark _)) pa_nil)) (nomark _)))))))), rfl⟩
def rd__law_way_fits (P : Program) (w : World) (K : Fg) : TS := (tSeq (tIfS (tOr (tNot (tB (tCB (rIsi K) (tCons (tVar 4) (tCons (tC (.ty "tuple")) tNil))))) (tOr (tTest (tOp (rEqU K) (tCB (rLenQ K) (tCons (tVar 4) tNil)) (tC (.int 0)))) (tAnd (tB (tVar 5)) (tTest (tOp (rNeU K) (tCB (rLenQ K) (tCons (tVar 4) tNil)) (tCall (sp__law_long K) [] E0 (tCons (tVar 0) (tCons (tVar 1) (tCons (tVar 2) (tCons (tVar 3) tNil)))))))))) (tRet (tC (.bl false))) tNext) (tSeq (tFor (iSeq K (tVar 4)) (gName 6) (tIfS (tOr (tNot (tB (tCall (sp__law_is_house K) [] E0 (tCons (tVar 6) (tCons (tC (.int 6)) tNil))))) (tTest (tOp (rInU K false) (tVar 6) (tVar 1)))) (tRet (tC (.bl false))) tNext)) (tSeq (tFor (iRng2 (tCons (tC (.int 1)) (tCons (tCB (rLenQ K) (tCons (tVar 4) tNil)) tNil))) (gName 7) (tIfS (tTest (tOp (rInU K true) (tTup (tCons (tCB (rMin K) (tCons (tLst (tCons (tOp (rIxU K) (tVar 4) (tOp (rI0 fun i j => V.int (i - j)) (tVar 7) (tC (.int 1)))) (tCons (tOp (rIxU K) (tVar 4) (tVar 7)) tNil))) tNil)) (tCons (tCB (rMax K) (tCons (tLst (tCons (tOp (rIxU K) (tVar 4) (tOp (rI0 fun i j => V.int (i - j)) (tVar 7) (tC (.int 1)))) (tCons (tOp (rIxU K) (tVar 4) (tVar 7)) tNil))) tNil)) tNil))) (tVar 0))) (tRet (tC (.bl false))) tNext)) (tRet (tAndV (tOp (rEqU K) (tOp (rIxU K) (tVar 4) (tC (.int 0))) (tVar 2)) (tAndV (tOp (rEqU K) (tOp (rIxU K) (tVar 4) (tUn (rU fun i => V.int (-i)) (tC (.int 1)))) (tVar 3)) (tOp (rEqU K) (tCB (rLenQ K) (tCons (tSS K P w (tVar 4)) tNil)) (tCB (rLenQ K) (tCons (tVar 4) tNil)))))))))
theorem sc__law_way_fits : FnScope ["_law_wires", "_law_lot", "_law_one", "_law_other", "_law_way", "_law_least", "_law_house", "_law_k"] ["_law_wires", "_law_lot", "_law_one", "_law_other", "_law_way", "_law_least"] (defScope Hd.s__law_way_fits) := ⟨rfl, rfl, rfl, by decide +kernel, rfl, by decide +kernel, by decide +kernel⟩
theorem tm__law_way_fits (T : Hd.Tx K mg) (c__law_is_house : Cal P w K mg base 1 "_law_is_house" ["_law_thing", "_law_many"] (sp__law_is_house K)) (c__law_long : Cal P w K mg base 1 "_law_long" ["_law_wires", "_law_lot", "_law_one", "_law_other"] (sp__law_long K)) : BodyOk P w K mg base ["_law_wires", "_law_lot", "_law_one", "_law_other", "_law_way", "_law_least", "_law_house", "_law_k"] "_law_way_fits" Hd.s__law_way_fits f 1 (fun t => t = rd__law_way_fits P w K) :=
  fun cdv A outer s H E hr => ⟨_, (pss_cons (ps_if (PW.pt (pw_or (pt_not (pt_val (pe_callB call_isi (by rfl) T.b_isinstance (by decide +kernel) (pa_cons (pv 4) (pa_cons (pe_bltn (v := .ty "tuple") rfl (T.b_tuple) boot_tuple rfl) pa_nil))))) (pw_or (pt_cmpR (op_eqU hr.units) (pe_callB call_lenQ (by rfl) T.b_len PySem.boot_len (pa_cons (pv 4) pa_nil)) pe_int (nomark _)) (pw_or1 (PW.pt (pw_and (pt_val (pv 5)) (pw_and1 (pt_cmpR (op_neU hr.units) (pe_callB call_lenQ (by rfl) T.b_len PySem.boot_len (pa_cons (pv 4) pa_nil)) (pc c__law_long (hr.mono (by decide)) rfl (pa_cons (pv 0) (pa_cons (pv 1) (pa_cons (pv 2) (pa_cons (pv 3) pa_nil))))) (nomark _))))))))) (pss_one (ps_ret pe_bl)) pss_nil) (pss_cons (ps_for PassesOwn.never rfl (pi_seq (pv 4)) (pg_name (i := 6) sc__law_way_fits.nd rfl (Or.inl rfl)) (pss_one (ps_if (PW.pt (pw_or (pt_not (pt_val (pc c__law_is_house (hr.mono (by decide)) rfl (pa_cons (pv 6) (pa_cons pe_int pa_nil))))) (pw_or1 (pt_cmpR (op_inU (units65 hr)) (pv 6) (pv 1) (by rfl))))) (pss_one (ps_ret pe_bl)) pss_nil))) (pss_cons (ps_for PassesOwn.never rfl (pi_range2 rfl T.b_range (pa_cons pe_int (pa_cons (pe_callB call_lenQ (by rfl) T.b_len PySem.boot_len (pa_cons (pv 4) pa_nil)) pa_nil))) (pg_name (i := 7) sc__law_way_fits.nd rfl (Or.inl rfl)) (pss_one (ps_if (pt_cmpR (op_notInU (units65 hr)) (pe_tup (pa_cons (pe_callB (cr_min rfl) (by rfl) T.b_min (by decide +kernel) (pa_cons (pe_lst (pa_cons (pe_ix ix_U (pv 4) (pe_op op_sub (pv 7) pe_int) (fun _ _ => rfl)) (pa_cons (pe_ix ix_U (pv 4) (pv 7) (fun _ _ => rfl)) pa_nil))) pa_nil)) (pa_cons (pe_callB (cr_max rfl) (by rfl) T.b_max (by decide +kernel) (pa_cons (pe_lst (pa_cons (pe_ix ix_U (pv 4) (pe_op op_sub (pv 7) pe_int) (fun _ _ => rfl)) (pa_cons (pe_ix ix_U (pv 4) (pv 7) (fun _ _ => rfl)) pa_nil))) pa_nil)) pa_nil))) (pv 0) (by rfl)) (pss_one (ps_ret pe_bl)) pss_nil))) (pss_one (ps_ret (pe_and (pe_cmpR (op_eqU hr.units) (pe_ix ix_U (pv 4) pe_int (fun _ _ => rfl)) (pv 2) (nomark _)) (pe_and (pe_cmpR (op_eqU hr.units) (pe_ix ix_U (pv 4) (pe_un un_neg pe_int) (fun _ _ => rfl)) (pv 3) (nomark _)) (pe_one (pe_cmpR (op_eqU hr.units) (pe_callB call_lenQ (by rfl) T.b_len PySem.boot_len (pa_cons (pe_callB (cr_sortSU rfl hr.units) (by rfl) T.b_sorted (by decide +kernel) (pa_cons (pe_callTy (cr_setU rfl hr.units) (by rfl) T.b_set (by decide +kernel) (pa_cons (pv 4) pa_nil)) pa_nil)) pa_nil)) (pe_callB call_lenQ (by rfl) T.b_len PySem.boot_len (pa_cons (pv 4) pa_nil)) (nomark _)))))))))), rfl⟩
end
end Dy
/-! ## Run11 -/
namespace Dy
open PySem L2 PyProof.Rows Mi
local macro_rules | `(tactic| trivial) => `(tactic| (repeat (first | exact Le.stop | apply Le.same | apply Le.drop)); done)
section
variable {α : Type} {P : Program} {w : World} {K : Fg} {Γ : Ctx} {ta tb tc te : TE}
/-! reprs that are alike -/
def Shows (d : PyData) : Prop := Sh d 1048576 ∧ (∀ i, d ≠ .int i) ∧ (∀ s, d ≠ .str s) ∧ d ≠ .none
theorem et_neRepr [Dat α] {x y : α} (ha : Ev K ta Γ x) (hb : Ev K tb Γ y) (e : x = y) (h : Shows (Dat.d x)) (hd : Dat.dep α ≤ 60 := by decide) : EvT K (tTest (tOp (rNeU K) (tCB (rRepr K) (tCons ta tNil)) (tCB (rRepr K) (tCons tb tNil)))) Γ false := by
  subst e
  exact (et_test (ev_neS (ev_repr ha h.1 (Nat.le_refl _) h.2.1 h.2.2.1 h.2.2.2 hd) (ev_repr hb h.1 (Nat.le_refl _) h.2.1 h.2.2.1 h.2.2.2 hd))).is (by simp)
theorem ev_eqRepr [Dat α] {x y : α} (ha : Ev K ta Γ x) (hb : Ev K tb Γ y) (e : x = y) (h : Shows (Dat.d x)) (hd : Dat.dep α ≤ 60 := by decide) : Ev K (tOp (rEqU K) (tCB (rRepr K) (tCons ta tNil)) (tCB (rRepr K) (tCons tb tNil))) Γ true := by
  subst e
  exact (ev_eqS (ev_repr ha h.1 (Nat.le_refl _) h.2.1 h.2.2.1 h.2.2.2 hd) (ev_repr hb h.1 (Nat.le_refl _) h.2.1 h.2.2.1 h.2.2.2 hd)).is (by simp)
theorem shows_bool (b : Bool) : Shows (Dat.d b) := ⟨(sh_bool b).le (Nat.zero_le _), (fun _ z => by cases z), (fun _ z => by cases z), (fun z => by cases z)⟩
theorem sh_lot {l : Lot} (h : l.length ≤ 10 ∧ ∀ x ∈ l, -1000 ≤ x ∧ x ≤ 1000) : Sh (Dat.d l) 120 := sh_tup (n := 11) (m := 10) (fun x hx => by
  obtain ⟨i, hi, rfl⟩ := List.mem_map.mp hx
  exact sh_int (h.2 i hi).1 (h.2 i hi).2) (by rw [List.length_map]; exact h.1)
theorem shows_lots {ls : List Lot} (h : Small ls) : Shows (Dat.d ls) := ⟨(sh_tup (n := 120) (m := 100) (fun x hx => by
  obtain ⟨i, hi, rfl⟩ := List.mem_map.mp hx
  exact sh_lot (h.2 i hi)) (by rw [List.length_map]; exact h.1)).le (by decide), (fun _ z => by cases z), (fun _ z => by cases z), (fun z => by cases z)⟩
theorem lot_len {m : Int} {l : Lot} (h : LotOk m l) (hm : m ≤ 6) : l.length ≤ 6 := by
  have z := List.Nodup.length_le_of_subset (lt_nodup h.1) (l₂ := rng 0 6) fun x hx => mem_rng.mpr (by have := h.2 x hx; omega)
  rw [rng_len] at z
  exact z
theorem lot_small {m : Int} {l : Lot} (h : LotOk m l) (hm : m ≤ 6) : l.length ≤ 10 ∧ ∀ x ∈ l, -1000 ≤ x ∧ x ≤ 1000 := ⟨by have := lot_len h hm; omega, fun x hx => by have := h.2 x hx; omega⟩
theorem run__law_pair (x1 : Int) (x2 : List Wire) (x3 : List Lot) (x4 : Lst Lot) (x5 x6 : Int) (hp : PairLaw x1 x2 x3 x4.l x5 x6) : Run K (rd__law_pair P w K) [.fz x1, .fz x2, .fz x3, .bs x4, .fz x5, .fz x6, .any, .any, .any] (.ret true []) := by
  obtain ⟨fe⟩ := x4
  have nb := net_b hp.net6
  refine r_seq (r_set (EvN.ev (ev_sp3 (ea_cons (ev_bs rfl) (ea_cons (ev_fz rfl) (ea_cons (ev_fz rfl) ea_nil))) hp.few))) ?_
  refine r_ifS (et_neRepr (EvN.ev (ev_sp4 (ea_cons (ev_fz rfl) (ea_cons (ev_fz rfl) (ea_cons (ev_fz rfl) (ea_cons (ev_fz rfl) ea_nil)))) ⟨hp.fears, hp.pair⟩)) (ev_fz rfl) hp.same (shows_lots hp.small)) (fun h1 => nomatch h1) (fun h1 => r_skip ?_)
  refine r_seq (r_setL (ev_lc (f := fun (l : Lot) => l) (ei_seq (Ev.sqT (ev_fz rfl))) (fun x hx => eg_name) (fun x hx => (et_test (ev_notIn (ev_fz rfl) (Ev.sqL (EvN.ev (ev_sp3 (ea_cons (Ev.sqT (ev_fz rfl)) (ea_cons (ev_fz rfl) (ea_cons (ev_fz rfl) ea_nil))) nb.2)))))) (fun x hx hp => (ev_fz rfl)))) ?_
  refine r_ret (ev_eqRepr (EvN.ev (ev_sp5 (ea_cons (ev_fz rfl) (ea_cons (ev_fz rfl) (ea_cons (ev_fz rfl) (ea_cons (ev_fz rfl) (ea_cons (ev_fz rfl) ea_nil))))) ⟨hp.net6, hp.fears, hp.pair⟩)) (ev_eqU (α := (Lst (List Int))) (ev_ow rfl) (EvN.ev (ev_lst eal_nil))) ?_ (shows_bool _))
  rw [hp.send]
  refine decide_eq_decide.mpr ?_
  rw [List.map_id']
  exact ⟨fun z => congrArg Lst.mk z, fun z => Lst.mk.inj z⟩
end
end Dy
/-! ## Run12 -/
namespace Dy
open PySem L2 PyProof.Rows Mi
local macro_rules | `(tactic| trivial) => `(tactic| (repeat (first | exact Le.stop | apply Le.same | apply Le.drop)); done)
section
variable {P : Program} {w : World} {K : Fg} {Γ : Ctx} {ta tb tc te : TE}
theorem dec_true {p : Prop} (i : Decidable p) (h : p) : (!@decide p i) = false := by
  cases i with
  | isTrue _ => rfl
  | isFalse n => exact absurd h n
theorem run__law_way_fits (x1 : List Wire) (x2 : Lot) (x3 x4 : Int) (x5 : Lot) (x6 : Bool) (hp : WayFits x1 x2 x3 x4 x5) : Run K (rd__law_way_fits P w K) [.fz x1, .fz x2, .fz x3, .fz x4, .fz x5, .fz x6, .any, .any] (.ret true []) := by
  have hl := hp.len
  refine r_ifS (b := false) (EvT.is (et_or (et_not (et_B (ev_isiT (b := true) (ev_fz rfl) (by decide +kernel)))) (fun _ => (et_or (et_test (ev_eqU (α := Int) (ev_len (Ev.sqT (ev_fz rfl))) ev_int)) (fun _ => (et_and (et_B (ev_fz rfl)) (fun _ => (et_test (ev_neU (α := Int) (ev_len (Ev.sqT (ev_fz rfl))) (EvN.ev (ev_sp4 (ea_cons (ev_fz rfl) (ea_cons (ev_fz rfl) (ea_cons (ev_fz rfl) (ea_cons (ev_fz rfl) ea_nil)))) hp.few)))))))))) ?_) (fun h1 => nomatch h1) (fun h1 => r_skip ?_)
  · rw [decide_eq_true hp.long, decide_eq_false (show ¬ ((x5.length : Int) = 0) by omega)]
    simp
  refine r_for (P := fun _ => True) (S := fun _ => [.fz x1, .fz x2, .fz x3, .fz x4, .fz x5, .fz x6, .any, .any]) (ef_tup (ev_fz rfl)) (by trivial) True.intro (fun pre x => eg_name) (fun pre x post e _ => .inr ⟨True.intro, ?_⟩) fun _ => ?_
  · have hx := hp.house x (mem_split e)
    refine r_if (b := false) (EvT.is (et_or (et_not (et_B (EvN.ev (ev_sp2 (ea_cons (ev_fz rfl) (ea_cons ev_int ea_nil)) True.intro)))) (fun _ => (et_test (ev_in (ev_fz rfl) (Ev.sqT (ev_fz rfl)))))) ?_) (fun h1 => nomatch h1) (fun h1 => r_le r_next (by trivial))
    simp [inHouse, hx.1.1, hx.1.2, hx.2]
  refine r_for (P := fun _ => True) (S := fun _ => [.fz x1, .fz x2, .fz x3, .fz x4, .fz x5, .fz x6, .any, .any]) (ef_rng2 ev_int (ev_len (Ev.sqT (ev_fz rfl))) (by omega) (by omega)) (by trivial) True.intro (fun pre x => eg_name) (fun pre x post e _ => .inr ⟨True.intro, ?_⟩) fun _ => ?_
  · have hx := mem_rng.mp (mem_split e)
    have hw := hp.wire x (by omega) (by omega)
    refine r_if (b := false) (EvT.is (et_test (ev_notIn (ev_pair (ev_min2 (EvN.ev (ev_lst (eal_cons (ev_at (Ev.sqT (ev_fz rfl)) (ev_sub (ev_fz rfl) ev_int) (by omega)) (eal_cons (ev_at (Ev.sqT (ev_fz rfl)) (ev_fz rfl) (by omega)) eal_nil))))) (ev_max2 (EvN.ev (ev_lst (eal_cons (ev_at (Ev.sqT (ev_fz rfl)) (ev_sub (ev_fz rfl) ev_int) (by omega)) (eal_cons (ev_at (Ev.sqT (ev_fz rfl)) (ev_fz rfl) (by omega)) eal_nil)))))) (Ev.sqT (ev_fz rfl)))) ?_) (fun h1 => nomatch h1) (fun h1 => r_le r_next (by trivial))
    exact dec_true _ hw
  · refine r_retIs (ev_andV (ev_eqU (α := Int) (ev_at (Ev.sqT (ev_fz rfl)) ev_int (by omega)) (ev_fz rfl)) (fun _ => (ev_andV (ev_eqU (α := Int) (ev_last (Ev.sqT (ev_fz rfl)) hl.1) (ev_fz rfl)) (fun _ => (ev_eqU (α := Int) (ev_len (Ev.sqL (EvN.ev (ev_ssI (ev_fz rfl) (by omega))))) (ev_len (Ev.sqT (ev_fz rfl)))))))) ?_
    rw [decide_eq_true hp.ends.1, decide_eq_true hp.ends.2, hp.nodup]
    simp
end
end Dy
/-! ## Sp4 -/
namespace Dy
open PySem L2 PyProof.Rows Mi
/-- the lots in a lot -/
def partsOf (m : Int) (lot : Lot) : List Lot := (lots m).filter fun p => within p lot
def restOf (lh : List Lot) (lot : Lot) : List Lot := lh.filter fun p => !within lot p
structure GroundsLaw (m : Int) (net : List Wire) (fs lh : List Lot) (lot : Lot) : Prop where
  net6 : Net6 m net
  two : 2 ≤ m
  ground : GroundOk (List.replicate m.toNat 1, fs)
  h31 : fs.length ≤ 31
  lotok : LotOk m lot
  more : Fear6 m (greatest (fs ++ [lot]))
  lh100 : lh.length ≤ 100
  few : Few (lh ++ divided m net (partsOf m lot))
  due1 : dividing m net (greatest (fs ++ [lot])) = ssort (lh ++ divided m net (partsOf m lot))
  small1 : Small (dividing m net (greatest (fs ++ [lot])))
  less : lot ≠ [] → (blindRows fs lot).length ≤ 62 ∧ Fear6 m (blind fs lot) ∧ dividing m net (blind fs lot) = restOf lh lot ∧ Small (dividing m net (blind fs lot)) ∧ sturdy m net (blind fs lot) = decide (restOf lh lot = [])
section
variable (K : Fg)
def sp__law_grounds : Sp := sp5 K (fun (m : Int) (net : List Wire) (fs : List Lot) (lh : Lst Lot) (lot : Lot) => GroundsLaw m net fs lh.l lot) (fun _ _ _ _ _ => true)
end
end Dy
/-! ## Tm5 -/
namespace Dy
open PySem L2 PyProof.Rows
section
variable {P : Program} {w : World} {K : Fg} {mg : Str → Option Value} {base : Heap} {f : Addr}

def rd__law_grounds (P : Program) (w : World) (K : Fg) : TS := (tSeq (tAsg (tTup (tCons (tOp (rMulU K) (tTup (tCons (tC (.int 1)) tNil)) (tVar 0)) (tCons (tVar 2) tNil))) (gName 5)) (tSeq (tAsg (tOp (rIxU K) (tCall (sp_feared_too K) [] E0 (tCons (tVar 5) (tCons (tVar 4) tNil))) (tC (.int 1))) (gName 6)) (tSeq (tAsg (tLc (iSeq K (tCall (sp__law_lots K) [] E0 (tCons (tVar 0) tNil))) (gName 10) (tB (tCall (sp__law_within K) [] E0 (tCons (tVar 10) (tCons (tVar 4) tNil)))) (tVar 10) [10]) (gName 7)) (tSeq (tAsg (tCB (rTupQ K) (tCons (tSS K P w (tOp (rAddU K) (tVar 3) (tCall (sp__law_divided K) [] E0 (tCons (tVar 0) (tCons (tVar 1) (tCons (tVar 7) tNil)))))) tNil)) (gName 8)) (tSeq (tIfS (tTest (tOp (rNeU K) (tCB (rRepr K) (tCons (tCall (sp_dividing_lots K) [] E0 (tCons (tVar 0) (tCons (tVar 1) (tCons (tVar 6) tNil)))) tNil)) (tCB (rRepr K) (tCons (tVar 8) tNil)))) (tRet (tC (.bl false))) tNext) (tSeq (tIfS (tTest (tOp (rEqU K) (tVar 4) (tTup tNil))) (tRet (tC (.bl true))) tNext) (tSeq (tAsg (tOp (rIxU K) (tCall (sp_calmed K) [] E0 (tCons (tVar 5) (tCons (tVar 4) tNil))) (tC (.int 1))) (gName 9)) (tSeq (tAsg (tCB (rTupQ K) (tCons (tLc (iSeq K (tVar 3)) (gName 10) (tNot (tB (tCall (sp__law_within K) [] E0 (tCons (tVar 4) (tCons (tVar 10) tNil))))) (tVar 10) [10]) tNil)) (gName 8)) (tSeq (tIfS (tTest (tOp (rNeU K) (tCB (rRepr K) (tCons (tCall (sp_dividing_lots K) [] E0 (tCons (tVar 0) (tCons (tVar 1) (tCons (tVar 9) tNil)))) tNil)) (tCB (rRepr K) (tCons (tVar 8) tNil)))) (tRet (tC (.bl false))) tNext) (tRet (tOp (rEqU K) (tCB (rRepr K) (tCons (tCall (sp_is_sturdy K) [] E0 (tCons (tVar 0) (tCons (tVar 1) (tCons (tVar 9) tNil)))) tNil)) (tCB (rRepr K) (tCons (tOp (rEqU K) (tVar 8) (tTup tNil)) tNil)))))))))))))
theorem sc__law_grounds : FnScope ["_law_many", "_law_wires", "_law_fears_here", "_law_lots_here", "_law_lot", "_law_ground", "_law_more", "_law_within_here", "_law_due", "_law_less", "_law_part"] ["_law_many", "_law_wires", "_law_fears_here", "_law_lots_here", "_law_lot"] (defScope Hd.s__law_grounds) := ⟨rfl, rfl, rfl, by decide +kernel, rfl, by decide +kernel, by decide +kernel⟩
theorem tm__law_grounds (T : Hd.Tx K mg) (c_is_sturdy : Cal P w K mg base 9 "is_sturdy" ["many", "net", "fears"] (sp_is_sturdy K)) (c_dividing_lots : Cal P w K mg base 8 "dividing_lots" ["many", "net", "fears"] (sp_dividing_lots K)) (c__law_within : Cal P w K mg base 1 "_law_within" ["_law_lot", "_law_wide"] (sp__law_within K)) (c_calmed : Cal P w K mg base 8 "calmed" ["ground", "lot"] (sp_calmed K)) (c__law_divided : Cal P w K mg base 2 "_law_divided" ["_law_many", "_law_wires", "_law_feared_here"] (sp__law_divided K)) (c__law_lots : Cal P w K mg base 1 "_law_lots" ["_law_many"] (sp__law_lots K)) (c_feared_too : Cal P w K mg base 8 "feared_too" ["ground", "lot"] (sp_feared_too K)) : BodyG P w K mg base ["_law_many", "_law_wires", "_law_fears_here", "_law_lots_here", "_law_lot", "_law_ground", "_law_more", "_law_within_here", "_law_due", "_law_less", "_law_part"] "_law_grounds" Hd.s__law_grounds f 9 (fun t => t = rd__law_grounds P w K) :=
  fun cdv A outer s H E hG hr => ⟨_, (pss_cons (ps_set (i := 5) sc__law_grounds.nd rfl (Or.inl rfl) (pe_tup (pa_cons (pe_op op_mulU (pe_tup (pa_cons pe_int pa_nil)) (pv 0)) (pa_cons (pv 2) pa_nil)))) (pss_cons (ps_set (i := 6) sc__law_grounds.nd rfl (Or.inl rfl) (pe_ix ix_U (pc c_feared_too (hr.mono (by decide)) rfl (pa_cons (pv 5) (pa_cons (pv 4) pa_nil))) pe_int (fun _ _ => rfl))) (pss_cons (ps_setLc (i := 7) (own := [("_law_part", 10)]) rfl sc__law_grounds.nd rfl rfl (sw_true rfl rfl rfl (by kernel_rfl)) (pi_seq (pc c__law_lots (hr.mono (by decide)) rfl (pa_cons (pv 0) pa_nil))) (blkOk_by (by kernel_rfl)) (fun _ _ _ _ _ => (pg_name (i := 10) sc__law_grounds.nd rfl (by first | exact Or.inl rfl | exact Or.inr rfl))) (fun _ _ _ _ _ => (pts_one (pt_val (pc c__law_within (hr.mono (by decide)) rfl (pa_cons (pv 10) (pa_cons (pv 4) pa_nil)))))) (fun _ _ _ _ _ => (pv 10))) (pss_cons (ps_set (i := 8) sc__law_grounds.nd rfl (Or.inl rfl) (pe_callTy call_tupQ (by rfl) T.b_tuple (by decide +kernel) (pa_cons (pe_callB (cr_sortSU rfl hr.units) (by rfl) T.b_sorted (by decide +kernel) (pa_cons (pe_callTy (cr_setU rfl hr.units) (by rfl) T.b_set (by decide +kernel) (pa_cons (pe_op op_addU (pv 3) (pc c__law_divided (hr.mono (by decide)) rfl (pa_cons (pv 0) (pa_cons (pv 1) (pa_cons (pv 7) pa_nil))))) pa_nil)) pa_nil)) pa_nil))) (pss_cons (ps_if (pt_cmpR (op_neU hr.units) (pe_callB (cr_repr hG hr.units) (by rfl) T.b_repr (by decide +kernel) (pa_cons (pc c_dividing_lots (hr.mono (by decide)) rfl (pa_cons (pv 0) (pa_cons (pv 1) (pa_cons (pv 6) pa_nil)))) pa_nil)) (pe_callB (cr_repr hG hr.units) (by rfl) T.b_repr (by decide +kernel) (pa_cons (pv 8) pa_nil)) (nomark _)) (pss_one (ps_ret pe_bl)) pss_nil) (pss_cons (ps_if (pt_cmpR (op_eqU hr.units) (pv 4) (pe_tup pa_nil) (nomark _)) (pss_one (ps_ret pe_bl)) pss_nil) (pss_cons (ps_set (i := 9) sc__law_grounds.nd rfl (Or.inl rfl) (pe_ix ix_U (pc c_calmed (hr.mono (by decide)) rfl (pa_cons (pv 5) (pa_cons (pv 4) pa_nil))) pe_int (fun _ _ => rfl))) (pss_cons (ps_set (i := 8) sc__law_grounds.nd rfl (Or.inl rfl) (pe_callTy call_tupQ (by rfl) T.b_tuple (by decide +kernel) (pa_cons (pe_lc (own := [("_law_part", 10)]) rfl sc__law_grounds.nd (pi_seq (pv 3)) (blkOk_by (by kernel_rfl)) (fun _ _ _ _ _ => (pg_name (i := 10) sc__law_grounds.nd rfl (by first | exact Or.inl rfl | exact Or.inr rfl))) (fun _ _ _ _ _ => (pts_one (pt_not (pt_val (pc c__law_within (hr.mono (by decide)) rfl (pa_cons (pv 4) (pa_cons (pv 10) pa_nil))))))) (fun _ _ _ _ _ => (pv 10))) pa_nil))) (pss_cons (ps_if (pt_cmpR (op_neU hr.units) (pe_callB (cr_repr hG hr.units) (by rfl) T.b_repr (by decide +kernel) (pa_cons (pc c_dividing_lots (hr.mono (by decide)) rfl (pa_cons (pv 0) (pa_cons (pv 1) (pa_cons (pv 9) pa_nil)))) pa_nil)) (pe_callB (cr_repr hG hr.units) (by rfl) T.b_repr (by decide +kernel) (pa_cons (pv 8) pa_nil)) (nomark _)) (pss_one (ps_ret pe_bl)) pss_nil) (pss_one (ps_ret (pe_cmpR (op_eqU hr.units) (pe_callB (cr_repr hG hr.units) (by rfl) T.b_repr (by decide +kernel) (pa_cons (pc c_is_sturdy (hr.mono (by decide)) rfl (pa_cons (pv 0) (pa_cons (pv 1) (pa_cons (pv 9) pa_nil)))) pa_nil)) (pe_callB (cr_repr hG hr.units) (by rfl) T.b_repr (by decide +kernel) (pa_cons (pe_cmpR (op_eqU hr.units) (pv 8) (pe_tup pa_nil) (nomark _)) pa_nil)) (nomark _))))))))))))), rfl⟩
end
end Dy
/-! ## Run13 -/
namespace Dy
open PySem L2 PyProof.Rows Mi
local macro_rules | `(tactic| trivial) => `(tactic| (repeat (first | exact Le.stop | apply Le.same | apply Le.drop)); done)
section
variable {P : Program} {w : World} {K : Fg} {Γ : Ctx} {ta tb tc te : TE}
theorem run__law_grounds (x1 : Int) (x2 : List Wire) (x3 : List Lot) (x4 : Lst Lot) (x5 : Lot) (hp : GroundsLaw x1 x2 x3 x4.l x5) : Run K (rd__law_grounds P w K) [.fz x1, .fz x2, .fz x3, .bs x4, .fz x5, .any, .any, .any, .any, .any, .any] (.ret true []) := by
  obtain ⟨lh⟩ := x4
  have nb := net_b hp.net6
  have m6 := hp.net6.1.2
  have m2 := hp.two
  have h31 := hp.h31
  have hl : lh.length ≤ 100 := hp.lh100
  have gl : (List.replicate x1.toNat (1 : Int)).length = x1.toNat := List.length_replicate
  have gm : (((List.replicate x1.toNat (1 : Int)).length : Nat) : Int) = x1 := by
    rw [gl]
    omega
  have lot2 : LotOk (((List.replicate x1.toNat (1 : Int)).length : Nat) : Int) x5 := by
    rw [gm]
    exact hp.lotok
  have plen : (partsOf x1 x5).length ≤ 64 := Nat.le_trans (List.length_filter_le _ _) (lots_len m6)
  have dlen : (divided x1 x2 (partsOf x1 x5)).length ≤ 64 := Nat.le_trans (List.length_filter_le _ _) plen
  refine r_seq (r_set (ev_pair (α := List Int) (β := List Lot) (ev_ones (ev_fz rfl) (by omega)) (ev_fz rfl))) ?_
  refine r_seq (r_set (ev_snd (EvN.ev (ev_sp2 (ea_cons (ev_fz rfl) (ea_cons (ev_fz rfl) ea_nil)) ⟨hp.ground, h31, lot2⟩)))) ?_
  refine r_seq (r_setL (xs := partsOf x1 x5) (EvN.is (ev_lc (f := fun (l : Lot) => l) (ei_seq (Ev.sqL (EvN.ev (ev_sp1 (ea_cons (ev_fz rfl) ea_nil) ⟨by omega, m6⟩)))) (fun x hx => eg_name) (fun x hx => (et_B (EvN.ev (ev_sp2 (ea_cons (ev_fz rfl) (ea_cons (ev_fz rfl) ea_nil)) True.intro)))) (fun x hx hp => (ev_fz rfl))) (by rw [List.map_id']; rfl))) ?_
  refine r_seq (r_set (ev_tupL (Ev.sqL (EvN.ev (ev_ss (Ev.sqL (EvN.ev (ev_addL (ev_bs rfl) (EvN.ev (ev_sp3 (ea_cons (ev_fz rfl) (ea_cons (Ev.sqT (ev_fz rfl)) (ea_cons (ev_ow rfl) ea_nil))) ⟨⟨by omega, by omega, nb.2⟩, by show (partsOf x1 x5).length ≤ 1000; omega⟩)) (by show lh.length + (divided x1 x2 (partsOf x1 x5)).length ≤ LIM; unfold LIM; omega)))) hp.few))))) ?_
  refine r_ifS (et_neRepr (EvN.ev (ev_sp3 (ea_cons (ev_fz rfl) (ea_cons (ev_fz rfl) (ea_cons (ev_fz rfl) ea_nil))) ⟨hp.net6, hp.more⟩)) (ev_fz rfl) hp.due1 (shows_lots hp.small1)) (fun h1 => nomatch h1) (fun h1 => r_skip ?_)
  refine r_ifS (et_test (ev_eqU (α := (List Int)) (ev_fz rfl) (ev_tup eal_nil))) (fun h1 => r_seqR (r_ret ev_bl)) (fun h1 => r_skip ?_)
  obtain ⟨b1, b2, b3, b4, b5⟩ := hp.less (of_decide_eq_false h1)
  refine r_seq (r_set (ev_snd (EvN.ev (ev_sp2 (ea_cons (ev_fz rfl) (ea_cons (ev_fz rfl) ea_nil)) ⟨hp.ground, by show x3.length ≤ 100; omega, b1, lot2, of_decide_eq_false h1⟩)))) ?_
  refine r_seq (r_set (x := restOf lh x5) (Ev.is (ev_tupL (Ev.sqL (EvN.ev (ev_lc (f := fun (l : Lot) => l) (ei_seq (Ev.sqL (ev_bs rfl))) (fun x hx => eg_name) (fun x hx => (et_not (et_B (EvN.ev (ev_sp2 (ea_cons (ev_fz rfl) (ea_cons (ev_fz rfl) ea_nil)) True.intro))))) (fun x hx hp => (ev_fz rfl)))))) (by rw [List.map_id']; rfl))) ?_
  refine r_ifS (et_neRepr (EvN.ev (ev_sp3 (ea_cons (ev_fz rfl) (ea_cons (ev_fz rfl) (ea_cons (ev_fz rfl) ea_nil))) ⟨hp.net6, b2⟩)) (ev_fz rfl) b3 (shows_lots b4)) (fun h1 => nomatch h1) (fun h1 => r_skip ?_)
  exact r_ret (ev_eqRepr (EvN.ev (ev_sp3 (ea_cons (ev_fz rfl) (ea_cons (ev_fz rfl) (ea_cons (ev_fz rfl) ea_nil))) ⟨hp.net6, b2⟩)) (ev_eqU (α := (List (List Int))) (ev_fz rfl) (ev_tup eal_nil)) (b5.trans (by congr)) (shows_bool _))
theorem run__law_drawn_pair (x1 : Int) (x2 : List Wire) (x3 : List Lot) (x4 : Lst Lot) (x5 x6 : Int) (hp : DrawnLaw x1 x2 x3 x4.l x5 x6) : Run K (rd__law_drawn_pair P w K) [.fz x1, .fz x2, .fz x3, .bs x4, .fz x5, .fz x6, .any, .any, .any, .any, .any] (.ret true []) := by
  obtain ⟨fe⟩ := x4
  have nb := net_b hp.net6
  refine r_seq (r_set (EvN.ev (ev_sp3 (ea_cons (ev_bs rfl) (ea_cons (ev_fz rfl) (ea_cons (ev_fz rfl) ea_nil))) hp.few))) ?_
  refine r_seq (Γ1 := [.fz x1, .fz x2, .fz x3, .any, .fz x5, .fz x6, .fz (lawBetween fe x5 x6), .any, .any, .any, .any]) (r_if (et_test (ev_gt (ev_fz rfl) ev_int)) (fun h1 => ?_) (fun h1 => r_le r_next (by trivial))) ?_
  · obtain ⟨hL, hE, hS⟩ := hp.left (of_decide_eq_true h1)
    refine r_seq (r_setL (ev_sortUTt (EvN.ev (ev_sp3 (ea_cons (ev_fz rfl) (ea_cons (ev_fz rfl) (ea_cons (ev_fz rfl) ea_nil))) True.intro)))) ?_
    exact r_if (et_neRepr (EvN.ev (ev_sp4 (ea_cons (ev_fz rfl) (ea_cons (ev_fz rfl) (ea_cons (ev_fz rfl) (ea_cons (ev_fz rfl) ea_nil)))) hL)) (ev_tupL (Ev.sqL (ev_ow rfl))) hE (shows_lots hS)) (fun h2 => nomatch h2) (fun h2 => r_le r_next (by trivial))
  refine r_seq (r_setL (ev_lst (eal_nil (α := Lot)))) ?_
  refine r_seq (r_forN (S := fun pre => [.fz x1, .fz x2, .fz x3, .any, .fz x5, .fz x6, .fz (lawBetween fe x5 x6), .any, .ol (jointOf x1 x2 x5 x6 pre), .any, .any]) (ef_tup (ev_fz rfl)) (by trivial) (fun pre x => eg_name) (fun pre x post e => ?_)) ?_
  · have hx := mem_split e
    have h1 := hp.few2 pre ⟨_, e⟩
    have h2 := hp.few3 x hx
    have e2 : jointOf x1 x2 x5 x6 (pre ++ [x]) = jointOf x1 x2 x5 x6 pre ++ (sides x1 x2 x).filter fun s => decide (x5 ∈ s) && decide (x6 ∈ s) := by
      unfold jointOf
      rw [List.foldl_append]
      rfl
    rw [e2]
    refine r_le (r_setL (ev_addL (ev_ow rfl) (EvN.ev (EvN.is (ev_lc (f := fun (l : Lot) => l) (p := fun s => decide (x5 ∈ s) && decide (x6 ∈ s)) (ei_seq (Ev.sqT (EvN.ev (ev_sp3 (ea_cons (ev_fz rfl) (ea_cons (ev_fz rfl) (ea_cons (ev_fz rfl) ea_nil))) ⟨hp.net6, hp.lotok x hx⟩)))) (fun x hx => eg_name) (fun x hx => (et_and (et_test (ev_in (ev_fz rfl) (Ev.sqT (ev_fz rfl)))) (fun _ => (et_test (ev_in (ev_fz rfl) (Ev.sqT (ev_fz rfl))))))) (fun x hx hp => (ev_fz rfl))) (by rw [List.map_id']))) ?_)) (by trivial)
    have h3 : ((sides x1 x2 x).filter fun s => decide (x5 ∈ s) && decide (x6 ∈ s)).length ≤ (sides x1 x2 x).length := List.length_filter_le _ _
    unfold LIM
    omega
  · exact r_ret (ev_eqRepr (EvN.ev (ev_sp5 (ea_cons (ev_fz rfl) (ea_cons (ev_fz rfl) (ea_cons (ev_fz rfl) (ea_cons (ev_fz rfl) (ea_cons (ev_fz rfl) ea_nil))))) ⟨hp.net6, hp.fears, hp.pair⟩)) (ev_eqU (α := Int) (ev_len (Ev.sqL (ev_ow rfl))) (ev_len (Ev.sqT (ev_fz rfl)))) hp.send (shows_bool _))
end
end Dy
/-! ## Nt0 -/
namespace Dy
open PySem L2 PyProof.Rows
abbrev nC (K : Fg) : Addr := He.ga K "Net"
abbrev nM (K : Fg) (m : Str) : Addr := He.ma K (He.ga K "Net") m
abbrev uC (K : Fg) : Addr := He.ga K "NotUsable"
section
variable {K : Fg} {mg : Str → Option Value}
theorem nt_cls_Net (T : Hd.Tx K mg) : Cls K (He.ga K "Net") := He.cls_ok (T.fact 92 (f := .cls "Net") rfl)
theorem nt_mkr_Net (T : Hd.Tx K mg) : Mk K (He.ga K "Net") (He.ma K (He.ga K "Net") "__init__") := He.mkr_ok (T.fact 93 (f := .mkr "Net") rfl)
theorem nt_noat_Nethouses (T : Hd.Tx K mg) : NoAttr K (He.ga K "Net") "_houses" := He.noat_ok (T.fact 94 (f := .noat "Net" "_houses") rfl)
theorem nt_noat_Netwires (T : Hd.Tx K mg) : NoAttr K (He.ga K "Net") "_wires" := He.noat_ok (T.fact 95 (f := .noat "Net" "_wires") rfl)
theorem nt_meth_Net_past (T : Hd.Tx K mg) : Meth K (He.ga K "Net") "past" (He.ma K (He.ga K "Net") "past") := He.meth_ok (T.fact 96 (f := .meth "Net" "past") rfl)
theorem nt_meth_Net_call (T : Hd.Tx K mg) : Meth K (He.ga K "Net") "__call__" (He.ma K (He.ga K "Net") "__call__") := He.meth_ok (T.fact 97 (f := .meth "Net" "__call__") rfl)
theorem nt_meth_Net_getitem (T : Hd.Tx K mg) : Meth K (He.ga K "Net") "__getitem__" (He.ma K (He.ga K "Net") "__getitem__") := He.meth_ok (T.fact 98 (f := .meth "Net" "__getitem__") rfl)
theorem nt_meth_Net_add (T : Hd.Tx K mg) : Meth K (He.ga K "Net") "__add__" (He.ma K (He.ga K "Net") "__add__") := He.meth_ok (T.fact 99 (f := .meth "Net" "__add__") rfl)
theorem nt_meth_Net_invert (T : Hd.Tx K mg) : Meth K (He.ga K "Net") "__invert__" (He.ma K (He.ga K "Net") "__invert__") := He.meth_ok (T.fact 100 (f := .meth "Net" "__invert__") rfl)
theorem nt_meth_Net_len (T : Hd.Tx K mg) : Meth K (He.ga K "Net") "__len__" (He.ma K (He.ga K "Net") "__len__") := He.meth_ok (T.fact 101 (f := .meth "Net" "__len__") rfl)
theorem nt_meth_Net_iter (T : Hd.Tx K mg) : Meth K (He.ga K "Net") "__iter__" (He.ma K (He.ga K "Net") "__iter__") := He.meth_ok (T.fact 102 (f := .meth "Net" "__iter__") rfl)
theorem nt_meth_Net_eq (T : Hd.Tx K mg) : Meth K (He.ga K "Net") "__eq__" (He.ma K (He.ga K "Net") "__eq__") := He.meth_ok (T.fact 103 (f := .meth "Net" "__eq__") rfl)
theorem nt_meth_NotUsable_init (T : Hd.Tx K mg) : Meth K (He.ga K "NotUsable") "__init__" (He.ma K (He.ga K "NotUsable") "__init__") := He.meth_ok (T.fact 104 (f := .meth "NotUsable" "__init__") rfl)
theorem nt_noat_NotUsable_word (T : Hd.Tx K mg) : NoAttr K (He.ga K "NotUsable") "word" := He.noat_ok (T.fact 105 (f := .noat "NotUsable" "word") rfl)
theorem nt_noat_NotUsable_at (T : Hd.Tx K mg) : NoAttr K (He.ga K "NotUsable") "at" := He.noat_ok (T.fact 106 (f := .noat "NotUsable" "at") rfl)
theorem nt_exm_NotUsable_NotUsable_true (T : Hd.Tx K mg) : PySem.W.exmOne K (.ref (He.ga K "NotUsable")) (.ref (He.ga K "NotUsable")) = some true := He.exm_ok (T.fact 107 (f := .exm "NotUsable" "NotUsable" true) rfl)
theorem nt_parts (T : Hd.Tx K mg) : PySem.W.fnIn K (nM K "__call__") = true ∧ PySem.W.fnIn K (nM K "__getitem__") = true ∧ PySem.W.noSeq K (nC K) = true ∧ PySem.W.selfFirst K (nC K) = true ∧ PySem.W.notFirst K (nC K) (.type "tuple") = true ∧ PySem.W.notFirst K (nC K) (.ref (nC K)) = true ∧
  PySem.W.kitOne K (.type "tuple") (.ref (nC K)) = some false ∧ C8.InsC K (nC K) := by
  obtain ⟨h1, h⟩ := He.ba T.net
  obtain ⟨h2, h⟩ := He.ba h
  obtain ⟨h3, h⟩ := He.ba h
  obtain ⟨h4, h⟩ := He.ba h
  obtain ⟨h5, h⟩ := He.ba h
  obtain ⟨h6, h⟩ := He.ba h
  obtain ⟨h7, h⟩ := He.ba h
  obtain ⟨h8, h⟩ := He.ba h
  obtain ⟨h9, h⟩ := He.ba h
  obtain ⟨h10, h⟩ := He.ba h
  obtain ⟨h11, h12⟩ := He.ba h
  exact ⟨h1, h2, h3, h4, h5, h6, of_decide_eq_true h7, ⟨nt_cls_Net T, He.eqO_ok h8, He.eqO_ok h9, of_decide_eq_true h10, of_decide_eq_true h11, of_decide_eq_true h12⟩⟩
theorem nt_callO (T : Hd.Tx K mg) : StX.CallO K (nC K) (nM K "__call__") := ⟨(nt_meth_Net_call T).at_, (nt_meth_Net_call T).fn, (nt_parts T).1⟩
end
end Dy
/-! ## Nt1 -/
namespace Dy
open PySem L2 PyProof.Rows Mi
/-! ### Net objects: what stands for one -/
structure NetO where
  m : Int
  net : List Wire
def netF (m : Int) (wv : V) : List (Str × V) := [("_houses", .int m), ("_wires", wv)]
instance : Kp NetO where
  R K H v n := ∃ a dx wv, v = .ref a ∧ H a = some (.ins (nC K) dx (netF n.m wv)) ∧ Enc.R K H wv n.net
  mono e := fun ⟨a, dx, wv, h1, h2, h3⟩ => ⟨a, dx, wv, h1, e a _ h2, Enc.mono e h3⟩
  nw _ _ := True
  nwm _ h := h
  keep e := fun ⟨a, dx, wv, h1, h2, h3⟩ => ⟨a, dx, wv, h1, e a _ h2 rfl, Kp.keep e h3⟩
  nwT _ _ := trivial
/-! ### rules -/
section
variable {X : Cx} {k : Nat} {C g : Addr} {sp : Sp} {e fe a b : Expr} {es : List Expr} {tf ta tb : TE} {t : TA} {pos : Pos}
/-- o(e, ..) -/
def tCallI (C : Addr) (sp : Sp) (tf : TE) (t : TA) : TE := fun σ H Q => tf σ H fun y H1 => ∃ a, y = V.ref a ∧ t σ H1 fun vs H2 => (∃ dx fs, H2 a = some (.ins C dx fs)) ∧ sp (V.ref a :: vs) H2 Q E0
theorem pe_callI (hf : PE X fe tf) (c : StX.CallO X.K C g) (F : FnR X.prog X.w X.K X.mg X.base CX0 k g sp) (hr : Room k X.A) (ha : PA X (e :: es) t)
    (ht : eval (.Call fe (e :: es) [] pos) X.env = (eval fe X.env >>= fun z => callWith pos z [] (backTo pos (starEach (e :: es) X.env)) (backToKw pos (keywordEach [] X.env))) := by rfl)
    (he : starEach (e :: es) X.env = (false, eval e X.env) :: starEach es X.env := by rfl) (hpl : (backTo pos (starEach es X.env)).any (·.1) = false := by rfl) : PE X (.Call fe (e :: es) [] pos) (tCallI C sp tf t) := by
  refine ⟨fun pins
          s σ H Q I h => ?_⟩
  apply Call_ _ ht
  apply thn (hf.run pins s σ H _ I h)
  rintro u s1 ⟨y, H1, I1, ry, a, rfl, q⟩
  cases (show u =
          Value.ref a from ry)
  apply StX.callO_with _ he hpl
  apply thn (ha.run pos pins s1 σ H1 _ I1 q)
  rintro us s2 ⟨vs, H2, I2, r, hi, q2⟩
  have hi2 : StX.InsC X H2 a C := .inr hi
  obtain ⟨ox, od, J, hd⟩ := StX.insC_at I2 hi2
  exact ⟨⟨C, ox, od, J, hd⟩, StX.run_callO c F hr pass0 I2 hi2 r q2⟩
/-- o[e] -/
def tIxO (C : Addr) (sp : Sp) (ta tb : TE) : TE := fun σ H Q => ta σ H fun x H1 => tb σ H1 fun y H2 => ∃ a dx fs, x = V.ref a ∧ H2 a = some (.ins C dx fs) ∧ sp [x, y] H2 Q E0
theorem pe_ixO (hs : PySem.W.findIn X.K (.ref C) "__getitem__" = some (some (.ref g))) (hf1 : PySem.W.fnIn X.K g = true) (hf : PySem.W.isFn X.K (.ref g) = true) (F : FnR X.prog X.w X.K X.mg X.base CX0 k g sp) (hr : Room (k + 1) X.A) (ha : PE X a ta) (hb : PE X b tb)
    (hsl : ∀ v u, subscripted b true v u = runValue (.builtin "lifetime.subscript" ⟨[v, u], []⟩) := by intro _ _; rfl) : PE X (.Subscript a b pos) (tIxO C sp ta tb) := by
  refine ⟨fun pins
          s σ H Q I h => ?_⟩
  refine Subscript_ (binT ha hb I h
          fun v u s2 x y H2 I2 rx ry q => ?_)
  obtain ⟨p, dx, fs, rfl, hp, q⟩ := q
  cases (show v =
          Value.ref p from rx)
  obtain ⟨mA, O, _⟩ := ins_get I2.hok hp
  obtain ⟨od, J, _⟩ := O.look
  obtain ⟨m, hF⟩ := I2.fr
  exact PySem.W.sub_K hF I2.ok.mod.kin J hs hf1 hf (wpAny_call (SlX.run_at (us := [.ref p, u]) (ws := [.ref p, y]) F hr.in1 I2.env0.in1 pass0 I2 (.cons rfl (.cons ry .nil)) q)) (hsl _ _)
/-- o + p, both of one class -/
def rAddO (C : Addr) (sp : Sp) : R2 := fun x y H Q => ∃ a dx fs b dy gs, x = V.ref a ∧ y = V.ref b ∧ H a = some (.ins C dx fs) ∧ H b = some (.ins C dy gs) ∧ sp [x, y] H Q E0
theorem op_addO (hs : PySem.W.findIn X.K (.ref C) "__add__" = some (some (.ref g))) (hf : PySem.W.isFn X.K (.ref g) = true) (hc : PySem.W.selfFirst X.K C = true) (F : FnR X.prog X.w X.K X.mg X.base CX0 k g sp) (hr : Room k X.A) : OpR X (binaryOp .Add) (rAddO C sp) := by
  intro pins s σ H x
          y v u Q I rx ry h
  obtain ⟨a, dx, fs, b, dy, gs, rfl, rfl, ha, hb, q⟩ := h
  cases (show v =
          Value.ref a from rx)
  cases (show u =
          Value.ref b from ry)
  obtain ⟨mA, O, _⟩
          := ins_get I.hok ha
  obtain ⟨od, J, _⟩ := O.look
  obtain ⟨mB, O2, _⟩ := ins_get I.hok hb
  obtain ⟨od2, J2, _⟩ := O2.look
  obtain ⟨m, hF⟩ := I.fr
  refine PySem.W.binop_K (op := .Add) hF I.ok.mod.kin J J2.type hc hs hf ?_
  refine wpAny_mono (wpAny_call (run_fnR (us := [.ref a, .ref b]) (vs := [.ref a, .ref b]) F hr pass0 I (.cons rfl (.cons rfl .nil)) q)) (fun w s' z => ?_) fun _ _ x => x
  obtain ⟨z', H',
          I', rz, qz⟩ := z
  exact SlX.cmpback rz ⟨z', H', I', rz, qz⟩
/-- ~o -/
def rInvO (C : Addr) (sp : Sp) : V → Hp → VK → Prop := fun x H Q => ∃ a dx fs, x = V.ref a ∧ H a = some (.ins C dx fs) ∧ sp [x] H Q E0
theorem un_invO (hs : PySem.W.findIn X.K (.ref C) "__invert__" = some (some (.ref g))) (hf : PySem.W.isFn X.K (.ref g) = true) (F : FnR X.prog X.w X.K X.mg X.base CX0 k g sp) (hr : Room k X.A) : UnR X (unaryOp .Invert) (rInvO C sp) := by
  intro pins s σ H x v Q I rx h
  obtain ⟨a, dx, fs,
          rfl, ha, q⟩ := h
  cases (show v =
          Value.ref a from rx)
  obtain ⟨mA, O, _⟩
          := ins_get I.hok ha
  obtain ⟨od, J, _⟩ := O.look
  obtain ⟨m, hF⟩ := I.fr
  exact PySem.W.ksp_inv hF I.ok.mod.kin J hs hf (wpAny_call (run_fnR (us := [.ref a]) (vs := [.ref a]) F hr pass0 I (.cons rfl .nil) q))
/-- o == y, y of the class or a tuple -/
def rEqO (K : Fg) (C : Addr) (sp : Sp) : R2 := fun x y H Q => ∃ a dx fs b, x = V.ref a ∧ y = V.ref b ∧ H a = some (.ins C dx fs) ∧ ((∃ dy gs, H b = some (.ins C dy gs)) ∨ ∃ ws, SqT K H b ws) ∧ sp [x, y] H Q E0
theorem op_eqO (hs : PySem.W.findIn X.K (.ref C) "__eq__" = some (some (.ref g))) (hf : PySem.W.isFn X.K (.ref g) = true) (hn1 : PySem.W.notFirst X.K C (.type "tuple") = true) (hn2 : PySem.W.notFirst X.K C (.ref C) = true) (F : FnR X.prog X.w X.K X.mg X.base CX0 k g sp) (hr : Room k X.A) : OpR X (compareOp .Eq) (rEqO X.K C sp) := by
  intro pins s σ H x
          y v u Q I rx ry h
  obtain ⟨a, dx, fs, b, rfl, rfl, ha, hb, q⟩ := h
  cases (show v =
          Value.ref a from rx)
  cases (show u =
          Value.ref b from ry)
  obtain ⟨mA, O, _⟩
          := ins_get I.hok ha
  obtain ⟨od, J, _⟩ := O.look
  obtain ⟨m, hF⟩ := I.fr
  have call : wpAny (model X.prog X.w) X.A (call (.ref g) [.ref a, .ref b]) (PySem.W.CmpBack (EP X pins σ Q)) X.xe s := by
    refine wpAny_mono (wpAny_call (run_fnR (us := [.ref a, .ref b]) (vs := [.ref a, .ref b]) F hr pass0 I (.cons rfl (.cons rfl .nil)) q)) (fun w s' z => ?_) fun _ _ x => x
    obtain ⟨z', H',
            I', rz, qz⟩ := z
    exact SlX.cmpback rz ⟨z', H', I', rz, qz⟩
  show wpAny _ _ (richCompare .Eq (.ref a) (.ref b)) _ _ _
  rcases hb with ⟨dy, gs, hb⟩ | ⟨ws, hb⟩
  · obtain ⟨mB, O2, _⟩ := ins_get I.hok hb
    obtain ⟨od2, J2, _⟩ := O2.look
    exact PySem.W.cmp_K (op := .Eq) (tb := .ref C) hr.units0 hF I.ok.mod.kin J J2.type hn2 hs hf call
  · obtain ⟨its, rv, pl, hz⟩ := I.tuple hb
    have ty : PySem.W.Looks (model X.prog X.w) s.heap (typeOf (.ref b)) (.type "tuple") := by
      obtain ⟨o, ho, hc, _⟩ := (show s.heap.IsTuple b its.toArray from pl)
      exact hc ▸ (PySem.W.Looks.ld ho).andThen .now
    exact PySem.W.cmp_K (op := .Eq) (tb := .type "tuple") hr.units0 hF I.ok.mod.kin J ty hn1 hs hf call
/-- len(o) -/
def rLenO (C : Addr) (sp : Sp) : List V → Hp → VK → Prop := fun xs H Q => ∃ a dx fs, xs = [V.ref a] ∧ H a = some (.ins C dx fs) ∧ sp xs H (fun z H' => ∃ i : Int, z = .int i ∧ 0 ≤ i ∧ i < 2 ^ 63 ∧ Q z H') E0
theorem call_lenO (hs : PySem.W.findIn X.K (.ref C) "__len__" = some (some (.ref g))) (hf : PySem.W.isFn X.K (.ref g) = true) (F : FnR X.prog X.w X.K X.mg X.base CX0 k g sp) (hr : Room (k + 1) X.A) : CallR X (.builtin "len") (rLenO C sp) := by
  intro pins s σ
          H xs us Q I r h
  obtain ⟨a, dx, fs,
          rfl, ha, q⟩ := h
  rw [Vals.ref1 r]
  obtain ⟨mA, O, _⟩
          := ins_get I.hok ha
  obtain ⟨od, J, _⟩ := O.look
  obtain ⟨m, hF⟩ := I.fr
  refine PySem.W.len_K hF I.ok.mod.kin J hs hf ?_
  refine wpAny_mono (wpAny_call (SlX.run_at (us := [.ref a]) (ws := [.ref a]) F hr.in1 I.env0.in1 pass0 I (.cons rfl .nil) q)) (fun w s' z => ?_) fun _ _ x => x
  obtain ⟨z', H', I', rz, i, rfl, h0, h1, qz⟩ := z
  obtain ⟨t, rfl⟩ := (show ∃ t, w = Value.int i t from rz)
  exact ⟨⟨h0, h1⟩, .int i, H', I'.tok _, ⟨_, rfl⟩, qz⟩
end
end Dy
/-! ## Nt2 -/
namespace Dy
open PySem L2 PyProof.Rows Mi
/-! ### iter(t), list(o) -/
def titObj (l : Addr) : Obj := { cls := .type "tuple_iterator", data := .fields #[.ref l, .int 0 0] }
/-- at it an iterator over the tuple at l, ahead of its first -/
def ItT (l it : Addr) : HO := .ext fun h => h.get? it = some (titObj l)
/-- something -/
def ItAny (it : Addr) : HO := .ext fun h => ∃ o, h.get? it = some o
theorem itT_ok {P : Program} {w : World} {H : Hp} {h : Heap} {l it : Addr} (e : h.get? it = some (titObj l)) : ObjOk P w H h it (ItT l it) := ⟨e, ⟨_, e⟩, fun h1 h2 q k => k _ q⟩
theorem itAny_ok {P : Program} {w : World} {H : Hp} {h : Heap} {it : Addr} {o : Obj} (e : h.get? it = some o) : ObjOk P w H h it (ItAny it) := ⟨⟨o, e⟩, ⟨_, e⟩, fun h1 h2 ⟨o, q⟩ k => ⟨o, k _ q⟩⟩
theorem it_iter {h : Heap} {l it : Addr} (e : h.get? it = some (titObj l)) : h.IsTupleIter it l 0 := ⟨_, e, rfl, rfl⟩
section
variable {X : Cx} {pins : List (Addr ×
        Obj)} {σ : L2.St} {H : Hp} {s : Shared}
def rIterT (K : Fg) : List V → Hp → VK → Prop := fun xs H Q => ∃ (l : Addr) (zs : List V), xs = [.ref l] ∧ SqT K H l zs ∧ ∀ it, H it = none → Q (.ref it) (upd H it (ItT l it))
theorem call_iterT : CallR X (.builtin "iter") (rIterT X.K) := by
  intro pins s σ H xs us Q I r ⟨l, zs, e, hq, q⟩
  subst e
  rw [Vals.ref1 r]
  obtain ⟨its, rv, pl, hz⟩ := I.tuple hq
  refine Calls.call_function_entry
          (by decide +kernel) (by decide +kernel) PySem.W.kdk_entry_iter (PySem.W.kdk_args_iter _) ?_
  unfold Builtin.«iter»
  apply wpAny_bind (m := someArgs "iter" 1 2 _)
  apply wpAny_of_eq (a := [Value.ref l]) (by first | rfl | kernel_rfl!)
  show wpAny _ _ (pyIter
          (.ref l) >>= _) _ _ _
  apply wpAny_bind
  apply wpAny_pyIter_tuple (show s.heap.IsTuple l its.toArray from pl)
  apply wpAny_pure
  exact ⟨_, rfl, .ref s.heap.objs.size, _, I.laid (t' := s.toks) (fun b u e => Heap.get?_push_of_some _ e) (Nat.le_refl _) (itT_ok (Heap.get?_push_size _ rfl)), rfl, q _ (I.hok.fresh (Nat.le_refl _))⟩
/-- the promise of __iter__ -/
def spIter (K : Fg) : Sp := fun vs H Q _ => ∃ a dx fs l zs, vs = [V.ref a] ∧ H a = some (.ins (nC K) dx fs) ∧ fs.lookup ("_wires" : Str) = some (.ref l) ∧ SqT K H l zs ∧ ∀ it, H it = none → Q (.ref it) (upd H it (ItT l it))
theorem upd_id {H : Hp} {a : Addr} {o : HO} (h : H a = some o) : upd H a o = H := by
  funext b
  by_cases hb : b = a
  · rw [hb, upd_same, h]
  · rw [upd_ne hb]
/-- a tuple's iterator ends: it is still there -/
theorem tit_end {prog : Program} {w : World} {A : Around} {E : Value → Shared → Prop} {it t : Addr} {i : Nat} {items : Array Value} {Q : Option Value → Shared → Prop} (hh : A.handled = none) (hit : s.heap.IsTupleIter it t i) (ht : s.heap.IsTuple t items) (hx : items[i]? = none)
    (hQ : ∀ h', (∃ o, h'.get? it = some o) → (∀ b o, b ≠ it → s.heap.get? b = some o → h'.get? b = some o) → Q none { s with heap := h' }) : wpAny (model prog w) A (pyNext (.ref it)) Q E s := by
  obtain ⟨ob, ho, hc, hd⟩ := id hit
  obtain ⟨ol, hol,
          _, nl, hdl⟩ := ht
  unfold pyNext
  apply wpAny_bind
  apply wpAny_attempt
  apply wpAny_callSpecial?_slot (name := Str.ofString "__next__") hit.typeIs PySem.F.slot_tuple_iterator_next
  apply wpAny_call_entry PySem.F.slot_tuple_iterator_next hit.typeIs PySem.F.entry_tuple_iterator_next _ (PySem.F.args_tuple_iterator_next_1 _)
  apply wpAny_bind (m := field (.ref it) 0)
  apply wpAny_field ho hd (x := .ref t) rfl
  change wpAny _ _ (if (Value.ref t == Value.none) = true then _ else _) _ _ s
  rw [if_neg (show ¬ (Value.ref t == Value.none) = true from Bool.false_ne_true)]
  apply wpAny_bind (m := field (.ref it) 1)
  apply wpAny_field ho hd (x := .int i 0) rfl
  apply wpAny_bind (m := seqItems? (.ref t))
  apply wpAny_seqItems hol hdl
  rw [Int.toNat_natCast]
  simp only [hx]
  apply wpAny_bind
  apply wpAny_rule
  apply wpAny_bind
  apply wpAny_setField ho hd (by simp)
  apply wpAny_bind (m := newExc (.type "StopIteration") [])
  simp only [newExc, newTuple]
  apply wpAny_bind
  refine wpAny_newObj_type (hd := by size_fits) ?_
  apply wpAny_bind (m := firstArgMember _ _)
  apply wpAny_of_eq (a := Value.none) (by first | rfl | (simp only [firstArgMember]; rfl))
  refine wpAny_newObj_type (hd := by size_fits) ?_
  simp only [raiseNew]
  apply wpAny_bind
  apply wpAny_handled
  first | rw [show A.in1.handled
          = none from hh] | rw [hh]
  refine wpAny_bind (wpAny_pure (wpAny_throw (wpAny_bind ?_)))
  refine wpAny_isInstance (T := "StopIteration") (b := true) ⟨_, Heap.get?_push_size _ rfl, rfl⟩ isSubtype_stop (wpAny_pure ?_)
  have fr : (Obj.mapFields (fun x => x.setIfInBounds 0 Value.none) ob).isFreed = false := by
    obtain ⟨c, d, dt, sl⟩ := ob
    simp only at hd
    subst hd
    rfl
  exact hQ _ ⟨_, Heap.get?_push_of_some _ (Heap.get?_push_of_some _ (Heap.get?_update_self _ ho fr))⟩ fun b u hb e => Heap.get?_push_of_some _ (Heap.get?_push_of_some _ ((Heap.get?_update_other _ _ (Ne.symm hb)).trans e))
end
end Dy
/-! ## Nt3 -/
namespace Dy
open PySem L2 PyProof.Rows Mi
section
variable {X : Cx} {pins : List (Addr ×
        Obj)} {σ : L2.St} {H : Hp} {s : Shared}
theorem lo_loop {A1 : Around} {S it l : Addr} {zs : List V} {Rs : Result → Shared → Prop} (hh : A1.in1.handled = none) (hne : l ≠ it) (hSi : S ≠ it) (hSl : S ≠ l) (hz : zs.length ≤ LIM)
    (hdone : ∀ H' s, Inv X pins σ H' s → H' S = some (.lst zs) → (∀ b, b ≠ S → H' b = H b) → Rs (.ok (.ret .none)) s) :
    ∀ (m i : Nat) (H' : Hp) (s : Shared), zs.length - i = m → i ≤ zs.length → Inv X pins σ H' s → H' S = some (.lst (zs.take i)) → (∀ b, b ≠ S → H' b = H b) → H' it = some (ItAny it) → SqT X.K H' l zs → s.heap.IsTupleIter it l i → codeAny (model X.prog X.w) A1 (.builtin "list.extend.loop" ⟨[.ref S, .ref it, .none], []⟩) Rs s := by
  have wr : ∀ {H' : Hp} {s : Shared} {h' : Heap} {tk : Nat}, Inv X pins σ H' s → H' it = some (ItAny it) → (∃ o, h'.get? it = some o) → (∀ b o, b ≠ it → s.heap.get? b = some o → h'.get? b = some o) → Inv X pins σ H' { s with heap := h', toks := tk } := fun {H' s h' tk} I hit ⟨o, ho⟩ k => by
    have z := I.write (t' := tk) (x := it) (e := it) (o := ItAny it) (by rw [hit]; exact True.intro) (.inl rfl) k ⟨o, ho⟩ (itAny_ok ho)
    rwa [upd_id hit] at z
  intro m
  induction m with
  | zero =>
    intro i H' s hm hi I hS hrest hit hl hti
    have e : i = zs.length := by omega
    subst e
    rw [List.take_length] at hS
    obtain ⟨its, rv, pl, _⟩ := I.tuple hl
    have hlen := rv.length
    apply codeAny_builtin PySem.F.entry_extend_loop
    rw [Around.under_plainId
            PySem.F.plain_extend_loop _]
    apply wpAny_bind (m := pyNext (.ref it))
    refine tit_end (items := its.toArray) hh hti (show s.heap.IsTuple l its.toArray from pl) (by simp; omega) fun h' he k => ?_
    exact wpAny_pure (hdone H' _ (wr (tk := s.toks) I hit he k) hS hrest)
  | succ m ih =>
    intro i H' s hm hi I hS hrest hit hl hti
    obtain ⟨its, rv, pl, hzz⟩ := I.tuple hl
    have hlen := rv.length
    have hlt : i < zs.length := by omega
    apply codeAny_builtin PySem.F.entry_extend_loop
    rw [Around.under_plainId
            PySem.F.plain_extend_loop _]
    apply wpAny_bind (m := pyNext (.ref it))
    have hx : (its.toArray)[i]? = some its[i] := by simp
    refine wpAny_pyNext_tuple_item hti (show s.heap.IsTuple l its.toArray from pl) hx fun h' hit' hs' => ?_
    have k : ∀ b o, b ≠ it → s.heap.get? b = some o → h'.get? b = some o := fun b o hb ho => hs'.extBut b o hb ho
    obtain ⟨oi, hoi, hoc, hod⟩ := id hit'
    have I1 := wr (tk := s.toks) I hit ⟨oi, hoi⟩ k
    obtain ⟨u, hu, ru⟩ := rv.get (i := i) (x := zs[i]) (List.getElem?_eq_getElem hlt)
    have eu : its[i] = u := by
      rw [List.getElem?_eq_getElem (by omega)] at hu
      exact Option.some.inj hu
    rw [eu]
    obtain ⟨z, its2, c, r2, hl2, e2⟩ := I1.lstM hS
    have hl3 : its2.length = i := by
      rw [← hl2, List.length_take]
      omega
    have lim : zs.length ≤ sizeLine := lim_le hz
    apply wpAny_bind (m := updateSeq S (·.push u))
    refine wpAny_updateSeq e2 rfl (wpAny_pure ⟨plainId_quiet PySem.F.plain_extend_loop _, ?_⟩) (by rw [List.size_toArray]; omega) (by show (its2.toArray.push u).size ≤ sizeLine + 1; rw [Array.size_push, List.size_toArray]; omega)
    have I2 := I1.lset (f := (·.push u)) (its' := its2 ++ [u]) (ys := zs.take i ++ [zs[i]]) (t' := s.toks) hS e2 (by simp) (r2.append (.cons ru .nil)) (by rw [List.length_append, List.length_singleton, List.length_take]; omega)
    have et : zs.take i ++ [zs[i]] = zs.take (i + 1) := by simp
    rw [et] at I2
    refine ih (i + 1) _ _ (by omega) hlt I2 upd_same (fun b hb => by rw [upd_ne hb]; exact hrest b hb) (by rw [upd_ne (Ne.symm hSi)]; exact hit) ?_ ?_
    · exact keep_t (keep_upd hS rfl) hl
    · exact hit'.at fun o ho => (Heap.get?_update_other _ _ hSi).trans ho
/-- list(o), o an instance of Net -/
def rLstO (K : Fg) (spL : Sp) : List V → Hp → VK → Prop := fun xs H Q => ∃ a dx fs l zs, xs = [V.ref a] ∧ H a = some (.ins (nC K) dx fs) ∧ fs.lookup ("_wires" : Str) = some (.ref l) ∧ SqT K H l zs ∧ zs.length ≤ LIM ∧ (∀ H1, Ex H H1 → spL xs H1 (fun z H' => Ex H1 H' ∧ z = .int (zs.length : Nat)) E0) ∧
  ∀ H' p, Ex H H' → H p = none → H' p = some (.lst zs) → Q (.ref p) H'
end
end Dy
/-! ## Nt4 -/
namespace Dy
open PySem L2 PyProof.Rows Mi
section
variable {X : Cx} {pins : List (Addr × Obj)} {σ : L2.St} {H : Hp} {s : Shared} {k : Nat} {fi fl a l : Addr} {zs : List V} {spL : Sp}
/-- the callee runs: nothing is raised -/
theorem run_at0 {A : Around} {n : Nat} {g : Addr} {sp : Sp} {Q : VK} {us : List Value} {ws : List V} {E : XK} (F : FnR X.prog X.w X.K X.mg X.base CX0 n g sp) (hr : Room n A) (e0 : Env0 X.prog X.w X.K X.mg X.base A X.stack s H) (I : Inv X pins σ H s) (r : Vals ws us) (h : sp ws H Q E) :
    wpAny (model X.prog X.w) A (call (.ref g) us) (EP X pins σ Q) (fun _ _ => False) s := by
  apply wpAny_call
  refine codeAny_mono (F A X.stack s H
          us ws Q E hr e0 r h) fun r s' hq => ?_
  cases r with
  | error e => exact (show
          False from hq).elim
  | ok fl =>
    cases fl with
    | ret u => exact I.after hq
    | _ => exact False.elim hq
/-- what list() asks of the length -/
theorem lo_hint {A : Around} {Q : Bool → Shared → Prop} {dx : Addr} {fs : List (Str × V)} (hl : Meth X.K (nC X.K) "__len__" fl) (FL : FnR X.prog X.w X.K X.mg X.base CX0 k fl spL) (hr : Room (k + 1) A) (e0 : Env0 X.prog X.w X.K X.mg X.base A X.stack s H) (I : Inv X pins σ H s)
    (ha : H a = some (.ins (nC X.K) dx fs)) (hz : zs.length ≤ LIM) (hsp : spL [.ref a] H (fun z H' => Ex H H' ∧ z = .int (zs.length : Nat)) E0) (h : ∀ b H' s', Inv X pins σ H' s' → Ex H H' → Q b s') :
    wpAny (model X.prog X.w) A (Builtin.List.listLengthHint (.ref a)) Q X.xe s := by
  obtain ⟨mA, O, _⟩
          := ins_get I.hok ha
  obtain ⟨od, J, _⟩ := O.look
  obtain ⟨m, hF⟩ := I.fr
  have hK : X.K.In s.heap := I.kIn
  have lim : zs.length ≤ sizeLine := lim_le hz
  unfold
          Builtin.List.listLengthHint
  refine wpAny_bind (wpAny_bind (J.type.here ((PySem.W.looks_findIn hK hl.at_).here ?_)))
  refine PySem.W.KFB.if_not
          rfl ?_
  refine PySem.W.KFB.if_so rfl (wpAny_bind (wpAny_rule (wpAny_bind (wpAny_attempt ?_))))
  refine PySem.W.len_K hF I.ok.mod.kin J hl.at_ hl.fn ?_
  refine wpAny_mono (run_at0 (us := [.ref a]) (ws := [.ref a]) FL hr.in1 e0.in1 I (.cons rfl .nil) hsp) (fun w s' z => ?_) fun _ _ y => y.elim
  · obtain ⟨z', H', I', rz, ex, rfl⟩ := z
    obtain ⟨t, rfl⟩ := (show ∃ t, w = Value.int _ t from rz)
    refine ⟨⟨by omega, by have := sizeLine_eq; omega⟩, wpAny_bind (wpAny_pure ?_)⟩
    refine PySem.W.KFB.if_not ?_ (wpAny_pure (h _ H' _ (I'.tok _) ex))
    exact L2.notLongL (by simpa using lim)
/-- list(o) -/
theorem call_listO (hc : X.calm = true) (hi : Meth X.K (nC X.K) "__iter__" fi) (hl : Meth X.K (nC X.K) "__len__" fl) (FI : FnR X.prog X.w X.K X.mg X.base CX0 k fi (spIter X.K)) (FL : FnR X.prog X.w X.K X.mg X.base CX0 k fl spL) (hr : Room (k + 3) X.A) : CallR X (.type "list") (rLstO X.K spL) := by
  intro pins s σ H xs us Q I rv ⟨a, dx, fs, l, zs, e, ha, hw, hlt, hz, hsp, q⟩
  subst e
  rw [Vals.ref1 rv]
  have lim : zs.length ≤ sizeLine := lim_le hz
  have hh0 : X.A.handled = none := I.ok.hd hc
  have hh : X.A.in1.in1.handled = none := by simp [hh0]
  have r2 : Room (k + 1) X.A.in1.in1 := (show Room (k + 2) X.A.in1 from Room.in1 hr).in1
  apply callType_codes (Q₁ := fun obj s₁ => obj = .ref s.heap.objs.size ∧ s₁ = { s with heap := s.heap.push { cls := .type "list", data := .seq #[] } }) PySem.F.called_list (PySem.F.typeCall_list_1 _) PySem.F.entry_list_init (code_list_new _ ⟨rfl, rfl⟩)
  rintro obj s₁ ⟨rfl, rfl⟩
  have hS : (s.heap.push { cls := .type "list", data := .seq #[] }).get? s.heap.objs.size
          = some { cls := .type "list", data := .seq #[] } := Heap.get?_push_size _ rfl
  refine ⟨⟨_, hS, rfl⟩,
          PySem.F.args_list_init_2 _ _, ?_⟩
  have fr : H s.heap.objs.size = none
          := I.hok.fresh (Nat.le_refl _)
  generalize hSS : s.heap.objs.size = S at hS fr ⊢
  have I1 : Inv X pins σ (upd H S (.lst [])) { s with heap := s.heap.push { cls := .type "list", data := .seq #[] } } := by
    have z := I.lnew (ys := []) (its := []) (t' := s.toks) .nil (Nat.zero_le _)
    rw [hSS] at z
    exact z
  change wpAny _ _ (do let old ← Builtin.List.listItems (.ref S); Builtin.List.listUpdate (.ref S) (fun _ => #[]); letGo old.toList.reverse; Builtin.List.listExtendWith (.ref S) (.ref a) .none) _ _ _
  apply wpAny_bind
  unfold Builtin.List.listItems
  apply wpAny_bind
  apply wpAny_seqItems hS rfl
  apply wpAny_pure
  change wpAny _ _ (updateSeq S (fun _ => #[]) >>= fun _ => letGo (#[] : Array Value).toList.reverse >>= fun _ => Builtin.List.listExtendWith (.ref S) (.ref a) .none) _ _ _
  apply wpAny_bind
  apply wpAny_updateSeq hS rfl
  have I2 := I1.lset (f := fun _ => #[]) (its := []) (its' := [])
          (ys := []) (t' := s.toks) upd_same hS rfl .nil (Nat.zero_le _)
  rw [upd_upd] at I2
  apply wpAny_bind
  apply wpAny_letGo
  generalize ({ s with heap := (s.heap.push { cls := .type "list", data := .seq #[] }).update S (Obj.mapSeq fun _ => #[]), toks := s.toks } : Shared) = s2 at I2 ⊢
  have hne : S ≠ a := fun z => by
    rw [← z, fr] at ha
    cases ha
  have eH : Ex H (upd H S (.lst [])) := Evl.Ex.new fr
  have ha2 : upd H S (.lst []) a = some (.ins (nC X.K) dx fs) := eH _ _ ha
  obtain ⟨mA, O, _⟩ := ins_get I2.hok ha2
  obtain ⟨od, J, _⟩ := O.look
  obtain ⟨m0, hF⟩ := I2.fr
  unfold
          Builtin.List.listExtendWith
  apply wpAny_bind
  apply J.type.here
  have n1 : Builtin.List.listSameRef (.ref S) (.ref a) = false := by simp [Builtin.List.listSameRef, hne]
  have n2 : (Value.ref (nC X.K) == Value.type "list") = false := rfl
  have n3 : (Value.ref (nC X.K) == Value.type "tuple") = false := rfl
  simp only [n1, n2, n3, Bool.or_false, Bool.false_eq_true, if_false]
  apply wpAny_bind
  apply PySem.W.owit_iter hF I2.ok.mod.kin J hi.at_ hi.fn
  have hlt2 : SqT X.K (upd H S (.lst [])) l zs := Evl.ex_t eH hlt
  have spI : spIter X.K [.ref a] (upd H S (.lst [])) (fun v H' => ∃ it, v = .ref it ∧ upd H S (.lst []) it = none ∧ H' = upd (upd H S (.lst [])) it (ItT l it)) E0 := ⟨a, dx, fs, l, zs, rfl, ha2, hw, hlt2, fun it hn => ⟨it, rfl, hn, rfl⟩⟩
  refine wpAny_mono (run_at0 (us := [.ref a]) (ws := [.ref a]) FI (r2.mono (Nat.le_succ k)) (I2.env0.in1.in1) I2 (.cons rfl .nil) spI) (fun w s3 z => ?_) fun _ _ y => y.elim
  obtain ⟨v, H3, I3, rw_, it, rfl, hn, rfl⟩ := z
  cases (show w = Value.ref it from rw_)
  have hob : s3.heap.get? it = some (titObj l) := (I3.hok it _ upd_same).1
  have e3 : Ex (upd H S (.lst [])) (upd (upd H S (.lst [])) it (ItT l it)) := Evl.Ex.new hn
  unfold PySem.W.OwitIt
  refine wpAny_specialOf (v := .ref it) (T := "tuple_iterator") ⟨_, hob, rfl⟩ PySem.F.slot_tuple_iterator_next.lookup (wpAny_bind (wpAny_holding ?_))
  refine lo_hint hl FL r2 I3.env0.in1.in1 I3 (e3 _ _ ha2) hz (hsp _ (eH.trans e3)) fun b H5 s5 I5 e5 => ?_
  have a1 : H5 S = some (.lst []) := e5 _ _ (e3 _ _ upd_same)
  have a2 : H5 it = some (ItT l it) := e5 _ _ upd_same
  have a3 : SqT X.K H5 l zs := Evl.ex_t (e3.trans e5) hlt2
  have ob5 : s5.heap.get? it = some (titObj l) := (I5.hok it _ a2).1
  have n5 : S ≠ it := fun z => by
    rw [← z, upd_same] at hn
    cases hn
  have n4 : l ≠ it := fun z => by
    obtain ⟨its, _, pl, _⟩ := I5.tuple a3
    obtain ⟨o, ho, hcl, _⟩ := (show s5.heap.IsTuple l its.toArray from pl)
    rw [z, ob5] at ho
    cases ho
    exact absurd (Value.type.inj hcl) (by decide)
  have n6 : S ≠ l := fun z => by
    obtain ⟨its, _, pl, _⟩ := I5.tuple a3
    obtain ⟨o, ho, hcl, _⟩ := (show s5.heap.IsTuple l its.toArray from pl)
    obtain ⟨_, its2, c, _, _, e2⟩ := I5.lstM a1
    rw [← z, e2] at ho
    cases ho
    exact absurd (Value.type.inj hcl) (by decide)
  have any : ∀ {s6 : Shared}, Inv X pins σ H5 s6 → Inv X pins σ (upd H5 it (ItAny it)) s6 ∧ s6.heap.IsTupleIter it l 0 := fun {s6} I6 => by
    have ob6 : s6.heap.get? it = some (titObj l) := (I6.hok it _ a2).1
    have z := I6.write (h' := s6.heap) (t' := s6.toks) (x := it) (e := it) (o := ItAny it) (by rw [a2]; exact True.intro) (.inl rfl) (fun _ _ _ y => y) ⟨_, ob6⟩ (itAny_ok ob6)
    exact ⟨z, it_iter ob6⟩
  have hIt : H it = none := by
    rw [upd_ne (Ne.symm n5)] at hn
    exact hn
  have fin : ∀ {s6 : Shared}, Inv X pins σ H5 s6 → codeAny (model X.prog X.w) X.A.in1 (.builtin "list.extend.loop" ⟨[.ref S, .ref it, .none], []⟩) (wants (fun r s₂ => r = .none ∧ EP X pins σ Q (.ref S) s₂) X.xe) s6 := fun {s6} I6 => by
    obtain ⟨I7, ti⟩ := any I6
    refine lo_loop (A1 := X.A.in1) (S := S) (it := it) (l := l) (zs := zs) hh n4 n5 n6 hz (H := upd H5 it (ItAny it)) (pins := pins) (σ := σ) (fun H8 s8 I8 h8 r8 => ⟨rfl, .ref S, H8, I8, rfl, q H8 S (fun b o hb => ?_) fr h8⟩) zs.length 0 _ s6 (by omega) (Nat.zero_le _) I7 (by rw [upd_ne n5]; simpa using a1) (fun _ _ => rfl) upd_same ?_ ti
    · rcases a3 with (y | ⟨o, y⟩) | y
      · exact .inl (.inl (by rw [upd_ne n4]; exact y))
      · exact .inl (.inr ⟨o, by rw [upd_ne n4]; exact y⟩)
      · exact .inr y
    · have b1 : b ≠ S := fun z => by
        rw [z, fr] at hb
        cases hb
      have b2 : b ≠ it := fun z => by
        rw [z, hIt] at hb
        cases hb
      rw [r8 b b1, upd_ne b2]
      exact (eH.trans (e3.trans e5)) _ _ hb
  refine wpAny_ite_split (fun _ => ?_) (fun _ => wpAny_pure ⟨plainId_quiet PySem.F.plain_extend_loop _, fin I5⟩)
  obtain ⟨_, its3, c3, r3, _, e3'⟩ := I5.lstM a1
  cases r3
  apply wpAny_bind
  apply wpAny_rule
  apply wpAny_bind
  change wpAny _ _ (updateSeq S (·.push .none) >>= fun _ => updateSeq S (·.pop)) _ _ _
  apply wpAny_bind
  apply wpAny_updateSeq e3' rfl
  have I6 := I5.lset (f := (·.push Value.none)) (its' := [Value.none]) (ys := [.non]) (t' := s5.toks) a1 e3' (by simp) (.cons rfl .nil) (by show 1 ≤ sizeLine; exact lim_le (by decide))
  obtain ⟨_, its4, c4, r4, _, e4⟩ := I6.lstM upd_same
  obtain ⟨u4, rfl,
          ru4⟩ := r4.one
  refine wpAny_updateSeq e4 rfl ?_ (by show 1 ≤ sizeLine; exact lim_le (by decide)) (by show 0 ≤ sizeLine + 1; exact Nat.zero_le _)
  have I7 := I6.lset (f := (·.pop)) (its := [u4]) (its' := []) (ys := []) (t' := s5.toks) upd_same e4 (by rfl) .nil (Nat.zero_le _)
  rw [upd_upd, upd_id a1] at I7
  exact wpAny_pure ⟨plainId_quiet PySem.F.plain_extend_loop _, fin I7⟩
end
end Dy
/-! ## Nt5 -/
namespace Dy
open PySem L2 PyProof.Rows Mi
/-- C(e, *t) -/
theorem pe_makeRS {X : Cx} {CX : CXT} {k : Nat} {f C : Addr} {sp : Sp} {E : XK} {x : Str} {e : Expr} {es : List Expr} {t : TA} {p pos : Pos} (M : Mk X.K C f) (F : FnR X.prog X.w X.K X.mg X.base CX k f sp) (hr : Room (k + 1) X.A) (hg : Gl X x) (hm : X.mg x = some (.ref C)) (hx : Passes CX X E) (ha : PA X (e :: es) t) (hd : (x == ("__debug__" : Str)) = false := by decide)
    (he : starEach (e :: es) X.env = (false, eval e X.env) :: starEach es X.env := by rfl) (hst : (backTo pos (starEach es X.env)).any (·.1) = true := by rfl) : PE X (.Call (.Name x p) (e :: es) [] pos) (StX.tMakeR C sp E t) := by
  refine ⟨fun pins
          s σ H Q I h => ?_⟩
  apply wpAny_Call_Name_kw (ld_glob I hg hm _ hd)
  apply PySem.W.callWith_S2 (h₀ := X.base) I.ok.mod.kin M.kp _ he hst
  apply thn (ha.run pos pins s σ H _ I h)
  rintro us s1 ⟨vs, H1, I1, r, q⟩
  exact ⟨I1.kIn, StX.run_makeR M F hr hx I1 r q⟩
/-! ### the promises of Net's methods -/
section
variable (K : Fg)
/-- the net of an object, wires told either way -/
def NetW (n : NetO) : Prop := Net6 n.m n.net
def sp_Net_past : Sp := sp4 K (fun (n : NetO) (lot : Lot) (a b : Int) => Net6 n.m n.net ∧ LotOk n.m lot ∧ PairOk n.m a b ∧ a ∉ lot ∧ b ∉ lot) (fun n lot a b => bareWay n.net lot a b)
def sp_Net___call__ : Sp := sp2 K (fun (n : NetO) (lot : Lot) => Net6 n.m n.net ∧ LotOk n.m lot) (fun n lot => sides n.m n.net lot)
def sp_Net___getitem__ : Sp := sp2 K (fun (n : NetO) (h : Int) => Net6 n.m n.net ∧ 0 ≤ h ∧ h < n.m) (fun n h => wired n.net h)
def sp_Net___len__ : Sp := sp1 K (fun (_ : NetO) => True) (fun n => ((n.net.length : Nat) : Int))
abbrev sp_Net___iter__ : Sp := spIter K
def sp_Net___invert__ : Sp := sp1 K (fun (n : NetO) => Net6 n.m n.net) (fun n => NetO.mk n.m (netBy ((mesh n.m).filter fun w => !decide (w ∈ n.net))))
def sp_Net___add__ : Sp := sp2 K (fun (n p : NetO) => Net6 n.m n.net ∧ Net6 p.m p.net ∧ p.m = n.m) (fun n p => NetO.mk n.m (netBy (n.net ++ p.net)))
def sp_eq1 : Sp := sp2 K (fun (_ _ : NetO) => True) (fun n p => decide (n.m = p.m) && decide (n.net = p.net))
def sp_eq2 : Sp := sp2 K (fun (_ : NetO) (_ : List Wire) => True) (fun _ _ => false)
def sp_Net___eq__ : Sp := fun vs H Q E => sp_eq1 K vs H Q E ∨ sp_eq2 K vs H Q E
/-- Net(many, *wires): __init__ on the new object -/
def sp_Net___init__ : Sp := fun vs H Q _ => ∃ (x dx : Addr) (m : Int) (vws : List V) (ws : List Wire), vs = V.ref x :: V.int m :: vws ∧ H x = some (.ins (nC K) dx []) ∧ Paired (Enc.R K H) vws ws ∧ ManyOk m ∧ (∀ p ∈ ws, PairOk m p.1 p.2) ∧ ws.length ≤ 62 ∧
  ∀ H', (∀ b o, b ≠ x → H b = some o → H' b = some o) → Enc.R K H' (.ref x) (NetO.mk m (netBy ws)) → Q .non H'
end
section
variable {α : Type} {K : Fg} {mg : Str → Option Value} {ta tb tc te : TE} {tr : TA} {Γ Γ' : Ctx} {n p : NetO} {i : Int}
theorem ev_houses (T : Hd.Tx K mg) (h : Ev K ta Γ n) : Ev K (tFld K ta "_houses") Γ n.m := fun B F σ H k Q q => h B F σ H k _ fun v H1 e r => by
  obtain ⟨a, dx, wv, rfl, h2, h3⟩ := r
  exact ⟨a, _, dx, _, _, rfl, h2, nt_cls_Net T, nt_noat_Nethouses T, rfl, q _ H1 e rfl⟩
theorem ev_wires (T : Hd.Tx K mg) (h : Ev K ta Γ n) : Ev K (tFld K ta "_wires") Γ n.net := fun B F σ H k Q q => h B F σ H k _ fun v H1 e r => by
  obtain ⟨a, dx, wv, rfl, h2, h3⟩ := r
  exact ⟨a, _, dx, _, wv, rfl, h2, nt_cls_Net T, nt_noat_Netwires T, rfl, q _ H1 e h3⟩
/-- isinstance(x, Net) -/
theorem ev_isNet (T : Hd.Tx K mg) (h : Ev K ta Γ n) : Ev K (tCB (rIsi K) (tCons ta (tCons (tC (.ref (He.ga K "Net"))) tNil))) Γ true := fun B F σ H k Q q => h B F σ H k _ fun v H1 e r => by
  obtain ⟨a, dx, wv, rfl, h2, h3⟩ := r
  have c := (nt_parts T).2.2.2.2.2.2.2
  exact ⟨_, _, _, _, true, rfl, .own _, .base (TyOf.ins h2 c.cl c.ha c.hn c.htk c.hm), c.me, q _ H1 e rfl⟩
theorem ev_isTup [Frz α] {xs : List α} (T : Hd.Tx K mg) (h : Ev K ta Γ xs) : Ev K (tCB (rIsi K) (tCons ta (tCons (tC (.ref (He.ga K "Net"))) tNil))) Γ false := fun B F σ H k Q q => h B F σ H k _ fun v H1 e r => by
  obtain ⟨a, vs, rfl, h2, _⟩ := r
  exact ⟨_, _, _, _, false, rfl, .own _, sqT_ty h2, (nt_parts T).2.2.2.2.2.2.1, q _ H1 e rfl⟩
/-- Net(e, *t): arguments -/
theorem ea_starT [Frz α] {xs : List α} (h : Ev K te Γ (Sq.mk xs)) : EvA K (StX.tStar K te tNil) Γ (fun vs H => Paired (Enc.R K H) vs xs) := fun B F σ H k Q q => h B F σ H k _ fun v H1 e r => by
  obtain ⟨a, vs, rfl, h2, h3, h4⟩ := r
  exact ⟨a, vs, rfl, (h2.imp SqL.of id).symm, show Q (vs ++ []) H1 by rw [List.append_nil]; exact q vs H1 e h4⟩
/-- Net(e, ..) -/
theorem ev_make {m : Int} {ws : List Wire} {tr : TA} (h1 : Ev K ta Γ m) (h2 : EvA K tr Γ (fun vs H => Paired (Enc.R K H) vs ws)) (hm : ManyOk m) (hp : ∀ p ∈ ws, PairOk m p.1 p.2) (hl : ws.length ≤ 62) : Ev K (StX.tMakeR (nC K) (sp_Net___init__ K) E0 (tCons ta tr)) Γ (NetO.mk m (netBy ws)) := fun B F σ H k Q q =>
  h1 B F σ H k _ fun v H1 e1 r1 => h2 B F σ H1 (k.mono e1) _ fun vs H2 e2 p x dx hx hdx hne => by
    have r1 : v = V.int m := r1
    subst r1
    have ex0 : Ex H2 (upd (upd H2 dx (.own x)) x (.ins (nC K) dx [])) := (Evl.Ex.new hdx).trans (Evl.Ex.new (by rw [upd_ne (Ne.symm hne)]; exact hx))
    refine ⟨x, dx, m, vs, ws, rfl, upd_same, paired_mono (fun _ _ r => Enc.mono ex0 r) p, hm, hp, hl, fun H' keep r => ⟨rfl, q _ H' (fun b o hb => ?_) r⟩⟩
    have hb2 := (e1.trans e2) b o hb
    have bx : b ≠ x := fun z => by
      rw [z, hx] at hb2
      cases hb2
    exact keep b o bx (ex0 b o hb2)
/-- o.past(..) -/
theorem ev_past {n : NetO} {lot : Lot} {a b : Int} {tr : TA} (h : Ev K ta Γ n) (ha : EvA K tr Γ (PCons K lot (PCons K a (PCons K b PNil)))) (hp : Net6 n.m n.net ∧ LotOk n.m lot ∧ PairOk n.m a b ∧ a ∉ lot ∧ b ∉ lot) : Ev K (tMethR (nC K) "past" (sp_Net_past K) E0 ta tr) Γ (bareWay n.net lot a b) := fun B F σ H k Q q =>
  h B F σ H k _ fun v H1 e1 r1 => by
    obtain ⟨x, dx, wv, e, hx, hn⟩ := id r1
    refine ⟨x, dx, _, e, hx, rfl, ha B F σ H1 (k.mono e1) _ fun vs H2 e2 p => ⟨_, ⟨n, lot, a, b, ⟨v, vs, rfl, Enc.mono e2 r1, p⟩, hp, rfl⟩, fun w H3 e3 r3 _ => q w H3 ((e1.trans e2).trans e3) r3⟩⟩
/-- o(lot) -/
theorem ev_callN {n : NetO} {lot : Lot} {tr : TA} (h : Ev K ta Γ n) (ha : EvA K tr Γ (PCons K lot PNil)) (hp : Net6 n.m n.net ∧ LotOk n.m lot) : Ev K (tCallI (nC K) (sp_Net___call__ K) ta tr) Γ (sides n.m n.net lot) := fun B F σ H k Q q =>
  h B F σ H k _ fun v H1 e1 r1 => by
    obtain ⟨x, dx, wv, rfl, hx, hn⟩ := id r1
    refine ⟨x, rfl, ha B F σ H1 (k.mono e1) _ fun vs H2 e2 p => ⟨⟨dx, _, e2 _ _ hx⟩, _, ⟨n, lot, ⟨_, vs, rfl, Enc.mono e2 r1, p⟩, hp, rfl⟩, fun w H3 e3 r3 _ => q w H3 ((e1.trans e2).trans e3) r3⟩⟩
/-- o[h] -/
theorem ev_ixN {n : NetO} {i : Int} (h : Ev K ta Γ n) (h2 : Ev K tb Γ i) (hp : Net6 n.m n.net ∧ 0 ≤ i ∧ i < n.m) : Ev K (tIxO (nC K) (sp_Net___getitem__ K) ta tb) Γ (wired n.net i) := fun B F σ H k Q q =>
  h B F σ H k _ fun v H1 e1 r1 => h2 B F σ H1 (k.mono e1) _ fun u H2 e2 r2 => by
    obtain ⟨x, dx, wv, e, hx, hn⟩ := id r1
    exact ⟨x, dx, _, e, e2 _ _ hx, _, ⟨n, i, ⟨v, _, rfl, Enc.mono e2 r1, u, _, rfl, r2, rfl⟩, hp, rfl⟩, fun w H3 e3 r3 _ => q w H3 ((e1.trans e2).trans e3) r3⟩
/-- o + p -/
theorem ev_addN {n p : NetO} (h : Ev K ta Γ n) (h2 : Ev K tb Γ p) (hp : Net6 n.m n.net ∧ Net6 p.m p.net ∧ p.m = n.m) : Ev K (tOp (rAddO (nC K) (sp_Net___add__ K)) ta tb) Γ (NetO.mk n.m (netBy (n.net ++ p.net))) := ev_op2 h h2 fun v u H Q r1 r2 q => by
  obtain ⟨x, dx, wv, e, hx, hn⟩ := id r1
  obtain ⟨y, dy, wu, e2, hy, hn2⟩ := id r2
  exact ⟨x, dx, _, y, dy, _, e, e2, hx, hy, _, ⟨n, p, ⟨v, _, rfl, r1, u, _, rfl, r2, rfl⟩, hp, rfl⟩, fun w H3 e3 r3 _ => q w H3 e3 r3⟩
/-- ~o -/
theorem ev_invN {n : NetO} (h : Ev K ta Γ n) (hp : Net6 n.m n.net) : Ev K (tUn (rInvO (nC K) (sp_Net___invert__ K)) ta) Γ (NetO.mk n.m (netBy ((mesh n.m).filter fun w => !decide (w ∈ n.net)))) := fun B F σ H k Q q => h B F σ H k _ fun v H1 e1 r1 => by
  obtain ⟨x, dx, wv, e, hx, hn⟩ := id r1
  exact ⟨x, dx, _, e, hx, _, ⟨n, ⟨v, _, rfl, r1, rfl⟩, hp, rfl⟩, fun w H3 e3 r3 _ => q w H3 (e1.trans e3) r3⟩
/-- o == p, o == t -/
theorem ev_eqN {n p : NetO} (h : Ev K ta Γ n) (h2 : Ev K tb Γ p) : Ev K (tOp (rEqO K (nC K) (sp_Net___eq__ K)) ta tb) Γ (decide (n.m = p.m) && decide (n.net = p.net)) := ev_op2 h h2 fun v u H Q r1 r2 q => by
  obtain ⟨x, dx, wv, e, hx, hn⟩ := id r1
  obtain ⟨y, dy, wu, e2, hy, hn2⟩ := id r2
  exact ⟨x, dx, _, y, e, e2, hx, .inl ⟨dy, _, hy⟩, .inl ⟨_, ⟨n, p, ⟨v, _, rfl, r1, u, _, rfl, r2, rfl⟩, True.intro, rfl⟩, fun w H3 e3 r3 _ => q w H3 e3 r3⟩⟩
theorem ev_eqNT {n : NetO} {ws : List Wire} (h : Ev K ta Γ n) (h2 : Ev K tb Γ ws) : Ev K (tOp (rEqO K (nC K) (sp_Net___eq__ K)) ta tb) Γ false := ev_op2 h h2 fun v u H Q r1 r2 q => by
  obtain ⟨x, dx, wv, e, hx, hn⟩ := id r1
  obtain ⟨y, vs, e2, hy, _, _⟩ := id r2
  exact ⟨x, dx, _, y, e, e2, hx, .inr ⟨vs, hy⟩, .inr ⟨_, ⟨n, ws, ⟨v, _, rfl, r1, u, _, rfl, r2, rfl⟩, True.intro, rfl⟩, fun w H3 e3 r3 _ => q w H3 e3 r3⟩⟩
/-- len(o) -/
theorem ev_lenN {n : NetO} (h : Ev K ta Γ n) (hl : n.net.length ≤ LIM) : Ev K (tCB (rLenO (nC K) (sp_Net___len__ K)) (tCons ta tNil)) Γ ((n.net.length : Nat) : Int) := fun B F σ H k Q q => h B F σ H k _ fun v H1 e1 r1 => by
  obtain ⟨x, dx, wv, rfl, hx, hn⟩ := id r1
  refine ⟨x, dx, _, rfl, hx, _, ⟨n, ⟨_, _, rfl, r1, rfl⟩, True.intro, rfl⟩, fun w H3 e3 r3 _ => ⟨((n.net.length : Nat) : Int), r3, by omega, ?_, q w H3 (e1.trans e3) r3⟩⟩
  unfold LIM at hl
  omega
/-- list(o) -/
theorem ev_listN {n : NetO} (h : Ev K ta Γ n) : EvN K (tCB (rLstO K (sp_Net___len__ K)) (tCons ta tNil)) Γ (Lst.mk n.net) := fun B F σ H k Q q => h B F σ H k _ fun v H1 e1 r1 => by
  obtain ⟨x, dx, wv, rfl, hx, hn⟩ := id r1
  obtain ⟨l, zs, rfl, h2, h3, h4⟩ := id hn
  have el := paired_len h4
  refine ⟨x, dx, _, l, zs, rfl, hx, rfl, h2, by rw [el]; exact h3, fun H2 e2 => ⟨_, ⟨n, ⟨_, _, rfl, Enc.mono e2 r1, rfl⟩, True.intro, rfl⟩, fun w H3 e3 r3 _ => ⟨e3, ?_⟩⟩, fun H3 p e3 hp hq => q _ H3 (e1.trans e3) ⟨p, zs, rfl, hq, h3, paired_mono (fun _ _ r => Enc.mono e3 r) h4⟩ ⟨p, rfl, Evl.fresh_back e1 hp⟩⟩
  rw [show w = V.int ((n.net.length : Nat) : Int) from r3, el]
end
end Dy
/-! ## Tm6 -/
namespace Dy
open PySem L2 PyProof.Rows
section
variable {P : Program} {w : World} {K : Fg} {mg : Str → Option Value} {base : Heap} {f : Addr}

def rd_Net_past (P : Program) (w : World) (K : Fg) : TS := (tRet (tCall (sp_way_past K) [] E0 (tCons (tFld K (tVar 0) "_houses") (tCons (tFld K (tVar 0) "_wires") (tCons (tVar 1) (tCons (tVar 2) (tCons (tVar 3) tNil)))))))
theorem sc_Net_past : FnScope ["self", "lot", "one", "other"] ["self", "lot", "one", "other"] (defScope Hd.s_Net_past) := ⟨rfl, rfl, rfl, by decide +kernel, rfl, by decide +kernel, by decide +kernel⟩
theorem tm_Net_past (T : Hd.Tx K mg) (c_way_past : Cal P w K mg base 6 "way_past" ["many", "net", "lot", "one", "other"] (sp_way_past K)) : BodyOk P w K mg base ["self", "lot", "one", "other"] "Net.past" Hd.s_Net_past f 9 (fun t => t = rd_Net_past P w K) :=
  fun cdv A outer s H E hr => ⟨_, (pss_one (ps_ret (pc c_way_past (hr.mono (by decide)) rfl (pa_cons (pe_fld (pv 0) rfl) (pa_cons (pe_fld (pv 0) rfl) (pa_cons (pv 1) (pa_cons (pv 2) (pa_cons (pv 3) pa_nil)))))))), rfl⟩
def rd_Net___call__ (P : Program) (w : World) (K : Fg) : TS := (tRet (tCall (sp_sides_of K) [] E0 (tCons (tFld K (tVar 0) "_houses") (tCons (tFld K (tVar 0) "_wires") (tCons (tVar 1) tNil)))))
theorem sc_Net___call__ : FnScope ["self", "lot"] ["self", "lot"] (defScope Hd.s_Net___call__) := ⟨rfl, rfl, rfl, by decide +kernel, rfl, by decide +kernel, by decide +kernel⟩
theorem tm_Net___call__ (T : Hd.Tx K mg) (c_sides_of : Cal P w K mg base 6 "sides_of" ["many", "net", "lot"] (sp_sides_of K)) : BodyOk P w K mg base ["self", "lot"] "Net.__call__" Hd.s_Net___call__ f 9 (fun t => t = rd_Net___call__ P w K) :=
  fun cdv A outer s H E hr => ⟨_, (pss_one (ps_ret (pc c_sides_of (hr.mono (by decide)) rfl (pa_cons (pe_fld (pv 0) rfl) (pa_cons (pe_fld (pv 0) rfl) (pa_cons (pv 1) pa_nil)))))), rfl⟩
def rd_Net___getitem__ (P : Program) (w : World) (K : Fg) : TS := (tRet (tCall (sp_wired_to K) [] E0 (tCons (tFld K (tVar 0) "_houses") (tCons (tFld K (tVar 0) "_wires") (tCons (tVar 1) tNil)))))
theorem sc_Net___getitem__ : FnScope ["self", "house"] ["self", "house"] (defScope Hd.s_Net___getitem__) := ⟨rfl, rfl, rfl, by decide +kernel, rfl, by decide +kernel, by decide +kernel⟩
theorem tm_Net___getitem__ (T : Hd.Tx K mg) (c_wired_to : Cal P w K mg base 6 "wired_to" ["many", "net", "house"] (sp_wired_to K)) : BodyOk P w K mg base ["self", "house"] "Net.__getitem__" Hd.s_Net___getitem__ f 9 (fun t => t = rd_Net___getitem__ P w K) :=
  fun cdv A outer s H E hr => ⟨_, (pss_one (ps_ret (pc c_wired_to (hr.mono (by decide)) rfl (pa_cons (pe_fld (pv 0) rfl) (pa_cons (pe_fld (pv 0) rfl) (pa_cons (pv 1) pa_nil)))))), rfl⟩
def rd_Net___add__ (P : Program) (w : World) (K : Fg) : TS := (tSeq (tDrop (tCall (sp_a_want K) [] E0 (tCons (tAndV (tCB (rIsi K) (tCons (tVar 1) (tCons (tC (.ref (He.ga K "Net"))) tNil))) (tOp (rEqU K) (tFld K (tVar 1) "_houses") (tFld K (tVar 0) "_houses"))) (tCons (tC (.str "other")) tNil)))) (tSeq (tAsg (tOp (rAddU K) (tFld K (tVar 0) "_wires") (tFld K (tVar 1) "_wires")) (gName 2)) (tRet (StX.tMakeR (nC K) (sp_Net___init__ K) E0 (tCons (tFld K (tVar 0) "_houses") (StX.tStar K (tVar 2) tNil))))))
theorem sc_Net___add__ : FnScope ["self", "other", "pairs"] ["self", "other"] (defScope Hd.s_Net___add__) := ⟨rfl, rfl, rfl, by decide +kernel, rfl, by decide +kernel, by decide +kernel⟩
theorem tm_Net___add__ (T : Hd.Tx K mg) (c_Net___init__ : FnR P w K mg base CX0 8 (nM K "__init__") (sp_Net___init__ K)) (c_a_want : Cal P w K mg base 1 "a_want" ["good", "word"] (sp_a_want K)) : BodyOk P w K mg base ["self", "other", "pairs"] "Net.__add__" Hd.s_Net___add__ f 11 (fun t => t = rd_Net___add__ P w K) :=
  fun cdv A outer s H E hr => ⟨_, (pss_cons (ps_expr (pc c_a_want (hr.mono (by decide)) rfl (pa_cons (pe_and (pe_callB call_isi (by rfl) T.b_isinstance (by decide +kernel) (pa_cons (pv 1) (pa_cons (pe_glob (v := .ref (He.ga K "Net")) rfl T.g_Net rfl) pa_nil))) (pe_one (pe_cmpR (op_eqU hr.units) (pe_fld (pv 1) rfl) (pe_fld (pv 0) rfl) (nomark _)))) (pa_cons pe_str pa_nil)))) (pss_cons (ps_set (i := 2) sc_Net___add__.nd rfl (Or.inl rfl) (pe_op op_addU (pe_fld (pv 0) rfl) (pe_fld (pv 1) rfl))) (pss_one (ps_ret (pe_makeRS (nt_mkr_Net T) c_Net___init__ (hr.mono (by decide)) rfl T.g_Net pass0 (pa_cons (pe_fld (pv 0) rfl) (StX.pa_star (pv 2) pa_nil))))))), rfl⟩
def rd_Net___invert__ (P : Program) (w : World) (K : Fg) : TS := (tSeq (tAsg (tLc (iSeq K (tCall (sp_mesh_of K) [] E0 (tCons (tFld K (tVar 0) "_houses") tNil))) (gName 2) (tTest (tOp (rInU K true) (tVar 2) (tFld K (tVar 0) "_wires"))) (tVar 2) [2]) (gName 1)) (tRet (StX.tMakeR (nC K) (sp_Net___init__ K) E0 (tCons (tFld K (tVar 0) "_houses") (StX.tStar K (tVar 1) tNil)))))
theorem sc_Net___invert__ : FnScope ["self", "pairs", "wire"] ["self"] (defScope Hd.s_Net___invert__) := ⟨rfl, rfl, rfl, by decide +kernel, rfl, by decide +kernel, by decide +kernel⟩
theorem tm_Net___invert__ (T : Hd.Tx K mg) (c_Net___init__ : FnR P w K mg base CX0 8 (nM K "__init__") (sp_Net___init__ K)) (c_mesh_of : Cal P w K mg base 3 "mesh_of" ["many"] (sp_mesh_of K)) : BodyOk P w K mg base ["self", "pairs", "wire"] "Net.__invert__" Hd.s_Net___invert__ f 15 (fun t => t = rd_Net___invert__ P w K) :=
  fun cdv A outer s H E hr => ⟨_, (pss_cons (ps_setLc (i := 1) (own := [("wire", 2)]) rfl sc_Net___invert__.nd rfl rfl (sw_true rfl rfl rfl (by kernel_rfl)) (pi_seq (pc c_mesh_of (hr.mono (by decide)) rfl (pa_cons (pe_fld (pv 0) rfl) pa_nil))) (blkOk_by (by kernel_rfl)) (fun _ _ _ _ _ => (pg_name (i := 2) sc_Net___invert__.nd rfl (by first | exact Or.inl rfl | exact Or.inr rfl))) (fun _ _ _ _ _ => (pts_one (pt_cmpR (op_notInU (units65 hr)) (pv 2) (pe_fld (pv 0) rfl) (by rfl)))) (fun _ _ _ _ _ => (pv 2))) (pss_one (ps_ret (pe_makeRS (nt_mkr_Net T) c_Net___init__ (hr.mono (by decide)) rfl T.g_Net pass0 (pa_cons (pe_fld (pv 0) rfl) (StX.pa_star (pv 1) pa_nil)))))), rfl⟩
def rd_Net___len__ (P : Program) (w : World) (K : Fg) : TS := (tRet (tCB (rLenQ K) (tCons (tFld K (tVar 0) "_wires") tNil)))
theorem sc_Net___len__ : FnScope ["self"] ["self"] (defScope Hd.s_Net___len__) := ⟨rfl, rfl, rfl, by decide +kernel, rfl, by decide +kernel, by decide +kernel⟩
theorem tm_Net___len__ (T : Hd.Tx K mg)  : BodyOk P w K mg base ["self"] "Net.__len__" Hd.s_Net___len__ f 3 (fun t => t = rd_Net___len__ P w K) :=
  fun cdv A outer s H E hr => ⟨_, (pss_one (ps_ret (pe_callB call_lenQ (by rfl) T.b_len PySem.boot_len (pa_cons (pe_fld (pv 0) rfl) pa_nil)))), rfl⟩
def rd_Net___iter__ (P : Program) (w : World) (K : Fg) : TS := (tRet (tCB (rIterT K) (tCons (tFld K (tVar 0) "_wires") tNil)))
theorem sc_Net___iter__ : FnScope ["self"] ["self"] (defScope Hd.s_Net___iter__) := ⟨rfl, rfl, rfl, by decide +kernel, rfl, by decide +kernel, by decide +kernel⟩
theorem tm_Net___iter__ (T : Hd.Tx K mg)  : BodyOk P w K mg base ["self"] "Net.__iter__" Hd.s_Net___iter__ f 3 (fun t => t = rd_Net___iter__ P w K) :=
  fun cdv A outer s H E hr => ⟨_, (pss_one (ps_ret (pe_callB call_iterT (by rfl) T.b_iter (by decide +kernel) (pa_cons (pe_fld (pv 0) rfl) pa_nil)))), rfl⟩
def rd_Net___eq__ (P : Program) (w : World) (K : Fg) : TS := (tRet (tAndV (tCB (rIsi K) (tCons (tVar 1) (tCons (tC (.ref (He.ga K "Net"))) tNil))) (tAndV (tOp (rEqU K) (tFld K (tVar 0) "_houses") (tFld K (tVar 1) "_houses")) (tOp (rEqU K) (tFld K (tVar 0) "_wires") (tFld K (tVar 1) "_wires")))))
theorem sc_Net___eq__ : FnScope ["self", "other"] ["self", "other"] (defScope Hd.s_Net___eq__) := ⟨rfl, rfl, rfl, by decide +kernel, rfl, by decide +kernel, by decide +kernel⟩
theorem tm_Net___eq__ (T : Hd.Tx K mg)  : BodyOk P w K mg base ["self", "other"] "Net.__eq__" Hd.s_Net___eq__ f 3 (fun t => t = rd_Net___eq__ P w K) :=
  fun cdv A outer s H E hr => ⟨_, (pss_one (ps_ret (pe_and (pe_callB call_isi (by rfl) T.b_isinstance (by decide +kernel) (pa_cons (pv 1) (pa_cons (pe_glob (v := .ref (He.ga K "Net")) rfl T.g_Net rfl) pa_nil))) (pe_and (pe_cmpR (op_eqU hr.units) (pe_fld (pv 0) rfl) (pe_fld (pv 1) rfl) (nomark _)) (pe_one (pe_cmpR (op_eqU hr.units) (pe_fld (pv 0) rfl) (pe_fld (pv 1) rfl) (nomark _))))))), rfl⟩
def rd_Net___init__ (P : Program) (w : World) (K : Fg) : TS := (tSeq (tDrop (tCall (sp_a_want K) [] E0 (tCons (tCall (sp_many_fits K) [] E0 (tCons (tVar 1) tNil)) (tCons (tC (.str "many")) tNil)))) (tSeq (tDrop (tCall (sp_a_want K) [] E0 (tCons (tCall (sp_pairs_fit K) [] E0 (tCons (tVar 1) (tCons (tVar 2) tNil))) (tCons (tC (.str "wires")) tNil)))) (tSeq (sFld K (tVar 0) (tVar 1) "_houses") (sFld K (tVar 0) (tCall (sp_net_by K) [] E0 (tCons (tVar 2) tNil)) "_wires"))))
theorem sc_Net___init__ : FnScope ["self", "many", "wires"] ["self", "many", "wires"] (defScope Hd.s_Net___init__) := ⟨rfl, rfl, rfl, by decide +kernel, rfl, by decide +kernel, by decide +kernel⟩
theorem tm_Net___init__ (T : Hd.Tx K mg) (c_net_by : Cal P w K mg base 2 "net_by" ["pairs"] (sp_net_by K)) (c_pairs_fit : Cal P w K mg base 4 "pairs_fit" ["many", "things"] (sp_pairs_fit K)) (c_a_want : Cal P w K mg base 1 "a_want" ["good", "word"] (sp_a_want K)) (c_many_fits : Cal P w K mg base 2 "many_fits" ["thing"] (sp_many_fits K)) : BodyOk P w K mg base ["self", "many", "wires"] "Net.__init__" Hd.s_Net___init__ f 7 (fun t => t = rd_Net___init__ P w K) :=
  fun cdv A outer s H E hr => ⟨_, (pss_cons (ps_expr (pc c_a_want (hr.mono (by decide)) rfl (pa_cons (pc c_many_fits (hr.mono (by decide)) rfl (pa_cons (pv 1) pa_nil)) (pa_cons pe_str pa_nil)))) (pss_cons (ps_expr (pc c_a_want (hr.mono (by decide)) rfl (pa_cons (pc c_pairs_fit (hr.mono (by decide)) rfl (pa_cons (pv 1) (pa_cons (pv 2) pa_nil))) (pa_cons pe_str pa_nil)))) (pss_cons (ps_fld (pv 0) (pv 1) rfl) (pss_one (ps_fld (pv 0) (pc c_net_by (hr.mono (by decide)) rfl (pa_cons (pv 2) pa_nil)) rfl))))), rfl⟩
def rd__law_object (P : Program) (w : World) (K : Fg) : TS := (tSeq (tAsg (StX.tMakeR (nC K) (sp_Net___init__ K) E0 (tCons (tVar 0) tNil)) (gName 2)) (tSeq (tFor (iSeq K (tVar 1)) (gName 3) (tAsg (tOp (rAddO (nC K) (sp_Net___add__ K)) (tVar 2) (StX.tMakeR (nC K) (sp_Net___init__ K) E0 (tCons (tVar 0) (tCons (tTup (tCons (tOp (rIxU K) (tVar 3) (tC (.int 1))) (tCons (tOp (rIxU K) (tVar 3) (tC (.int 0))) tNil))) tNil)))) (gName 2))) (tRet (tVar 2))))
theorem sc__law_object : FnScope ["_law_many", "_law_wires", "_law_one", "_law_wire"] ["_law_many", "_law_wires"] (defScope Hd.s__law_object) := ⟨rfl, rfl, rfl, by decide +kernel, rfl, by decide +kernel, by decide +kernel⟩
theorem tm__law_object (T : Hd.Tx K mg) (c_Net___init__ : FnR P w K mg base CX0 8 (nM K "__init__") (sp_Net___init__ K)) (c_Net___add__ : FnR P w K mg base CX0 12 (nM K "__add__") (sp_Net___add__ K)) : BodyOk P w K mg base ["_law_many", "_law_wires", "_law_one", "_law_wire"] "_law_object" Hd.s__law_object f 15 (fun t => t = rd__law_object P w K) :=
  fun cdv A outer s H E hr => ⟨_, (pss_cons (ps_set (i := 2) sc__law_object.nd rfl (Or.inl rfl) (StX.pe_makeR (nt_mkr_Net T) c_Net___init__ (hr.mono (by decide)) rfl T.g_Net pass0 (pa_cons (pv 0) pa_nil))) (pss_cons (ps_for PassesOwn.never rfl (pi_seq (pv 1)) (pg_name (i := 3) sc__law_object.nd rfl (Or.inl rfl)) (pss_one (ps_set (i := 2) sc__law_object.nd rfl (Or.inl rfl) (pe_op (op_addO (nt_meth_Net_add T).at_ (nt_meth_Net_add T).fn (nt_parts T).2.2.2.1 c_Net___add__ (hr.mono (by decide))) (pv 2) (StX.pe_makeR (nt_mkr_Net T) c_Net___init__ (hr.mono (by decide)) rfl T.g_Net pass0 (pa_cons (pv 0) (pa_cons (pe_tup (pa_cons (pe_ix ix_U (pv 3) pe_int (fun _ _ => rfl)) (pa_cons (pe_ix ix_U (pv 3) pe_int (fun _ _ => rfl)) pa_nil))) pa_nil))))))) (pss_one (ps_ret (pv 2))))), rfl⟩
end
end Dy
/-! ## M1 -/
namespace Mi
open Dy
/-! ### houses that ways join -/
/-- a wire joins both, neither is in the lot -/
def Adj (net : List Wire) (lot : Lot) (a b : Int) : Prop := ((a, b) ∈ net ∨ (b, a) ∈ net) ∧ a ∉ lot ∧ b ∉ lot
inductive Conn (net : List Wire) (lot : Lot) (a : Int) : Int → Prop
  | refl : Conn net lot a a
  | step {b c : Int} : Conn net lot a b → Adj net lot b c → Conn net lot a c
section
variable {net : List Wire} {lot : Lot} {a b c : Int}
theorem Adj.symm (h : Adj net lot a b) : Adj net lot b a := ⟨h.1.symm, h.2.2, h.2.1⟩
theorem Conn.trans (h : Conn net lot a b) (g : Conn net lot b c) : Conn net lot a c := by
  induction g with
  | refl => exact h
  | step _ d ih => exact ih.step d
theorem Conn.symm (h : Conn net lot a b) : Conn net lot b a := by
  induction h with
  | refl => exact .refl
  | step _ d ih => exact (Conn.refl.step d.symm).trans ih
theorem Conn.mono {net' : List Wire} (hs : ∀ p ∈ net, p ∈ net') (h : Conn net lot a b) : Conn net' lot a b := by
  induction h with
  | refl => exact .refl
  | step _ d ih => exact ih.step ⟨d.1.imp (hs _) (hs _), d.2⟩
theorem Conn.out (h : Conn net lot a b) (ha : a ∉ lot) : b ∉ lot := by
  cases h with
  | refl => exact ha
  | step _ d => exact d.2.2
theorem Conn.range {m : Int} (hw : ∀ p ∈ net, WireOk m p) (h : Conn net lot a b) (ha : 0 ≤ a ∧ a < m) : 0 ≤ b ∧ b < m := by
  cases h with
  | refl => exact ha
  | step _ d =>
    rcases d.1 with z | z
    · obtain ⟨h1, h2, h3⟩ := hw _ z
      simp only at h1 h2 h3
      omega
    · obtain ⟨h1, h2, h3⟩ := hw _ z
      simp only at h1 h2 h3
      omega
theorem Conn.closed {s : List Int} (h : Conn net lot a b) (ha : a ∈ s) (hc : ∀ x ∈ s, ∀ y, Adj net lot x y → y ∈ s) : b ∈ s := by
  induction h with
  | refl => exact ha
  | step _ d ih => exact hc _ ih _ d
/-- one wire more -/
theorem conn_snoc {w : Wire} : Conn (net ++ [w]) lot a b ↔ Conn net lot a b ∨ (w.1 ∉ lot ∧ w.2 ∉ lot ∧ ((Conn net lot a w.1 ∧ Conn net lot w.2 b) ∨ (Conn net lot a w.2 ∧ Conn net lot w.1 b))) := by
  obtain ⟨u, v⟩ := w
  constructor
  · intro h
    induction h with
    | refl => exact .inl .refl
    | @step x y h d ih =>
      obtain ⟨d1, d2, d3⟩ := d
      have cs : ((x, y) ∈ net ∨ (y, x) ∈ net) ∨ (x = u ∧ y = v) ∨ (x = v ∧ y = u) := by
        simp only [List.mem_append, List.mem_singleton, Prod.mk.injEq] at d1
        rcases d1 with (z | z) | (z | z)
        · exact .inl (.inl z)
        · exact .inr (.inl z)
        · exact .inl (.inr z)
        · exact .inr (.inr ⟨z.2, z.1⟩)
      rcases cs with z | ⟨e1, e2⟩ | ⟨e1, e2⟩
      · have dd : Adj net lot x y := ⟨z, d2, d3⟩
        rcases ih with i | ⟨i1, i2, ⟨i3, i4⟩ | ⟨i3, i4⟩⟩
        · exact .inl (i.step dd)
        · exact .inr ⟨i1, i2, .inl ⟨i3, i4.step dd⟩⟩
        · exact .inr ⟨i1, i2, .inr ⟨i3, i4.step dd⟩⟩
      · subst e1 e2
        rcases ih with i | ⟨i1, i2, ⟨i3, i4⟩ | ⟨i3, i4⟩⟩
        · exact .inr ⟨d2, d3, .inl ⟨i, .refl⟩⟩
        · exact .inr ⟨d2, d3, .inl ⟨i3, .refl⟩⟩
        · exact .inl i3
      · subst e1 e2
        rcases ih with i | ⟨i1, i2, ⟨i3, i4⟩ | ⟨i3, i4⟩⟩
        · exact .inr ⟨d3, d2, .inr ⟨i, .refl⟩⟩
        · exact .inl i3
        · exact .inr ⟨d3, d2, .inr ⟨i3, .refl⟩⟩
  · have up : ∀ {x y : Int}, Conn net lot x y → Conn (net ++ [(u, v)]) lot x y := fun h => h.mono fun p hp => List.mem_append_left _ hp
    rintro (h | ⟨h1, h2, ⟨h3, h4⟩ | ⟨h3, h4⟩⟩)
    · exact up h
    · exact ((up h3).step ⟨.inl (by simp), h1, h2⟩).trans (up h4)
    · exact ((up h3).step ⟨.inr (by simp), h2, h1⟩).trans (up h4)
end
theorem at_get {ms : List Int} {i : Int} (h : 0 ≤ i ∧ i < (ms.length : Int)) : ms[i.toNat]? = some (at' ms i) := by
  unfold at'
  have hl : i.toNat < ms.length := by omega
  rw [List.getD_eq_getElem?_getD, List.getElem?_eq_getElem hl]
  rfl
theorem at_map {ms : List Int} {i : Int} (f : Int → Int) (h : 0 ≤ i ∧ i < (ms.length : Int)) : at' (ms.map f) i = f (at' ms i) := by
  have e := at_get h
  have e2 := at_get (ms := ms.map f) (i := i) (by rw [List.length_map]; exact h)
  rw [List.getElem?_map, e] at e2
  exact (Option.some.inj e2).symm
theorem at_rng {n : Nat} {i : Int} (h : 0 ≤ i ∧ i < (n : Int)) : at' (rng 0 n) i = i := by
  have e := at_get (ms := rng 0 n) (i := i) (by rw [rng_len]; exact h)
  unfold rng at e
  rw [List.getElem?_map, List.getElem?_range (by omega)] at e
  have e2 : (0 : Int) + (i.toNat : Int) = at' (rng 0 n) i := Option.some.inj e
  omega
/-- marks are alike just of joined houses -/
theorem marks_conn {m : Int} {lot : Lot} : ∀ (net pre : List Wire) (ms : List Int), (ms.length : Int) = m → (∀ p ∈ net, WireOk m p) → (∀ a b, (0 ≤ a ∧ a < m) → (0 ≤ b ∧ b < m) → (at' ms a = at' ms b ↔ Conn pre lot a b)) →
    ∀ a b, (0 ≤ a ∧ a < m) → (0 ≤ b ∧ b < m) → (at' (net.foldl (markStep lot) ms) a = at' (net.foldl (markStep lot) ms) b ↔ Conn (pre ++ net) lot a b)
  | [], pre, ms, _, _, h => by
    rw [List.append_nil]
    exact h
  | w :: net, pre, ms, hl, hw, h => by
    have e : pre ++ w :: net = (pre ++ [w]) ++ net := by simp
    rw [e, List.foldl_cons]
    refine marks_conn net (pre ++ [w]) (markStep lot ms w) (by rw [markStep_len]; exact hl) (fun p hp => hw p (List.mem_cons_of_mem _ hp)) ?_
    obtain ⟨w1, w2, w3⟩ := hw w (List.mem_cons_self ..)
    have k1 : 0 ≤ w.1 ∧ w.1 < m := by omega
    have k2 : 0 ≤ w.2 ∧ w.2 < m := by omega
    intro a b ha hb
    rw [conn_snoc, ← h a b ha hb, ← h a w.1 ha k1, ← h a w.2 ha k2, ← h w.2 b k2 hb, ← h w.1 b k1 hb]
    unfold markStep
    by_cases c : w.1 ∉ lot ∧ w.2 ∉ lot
    · rw [if_pos (by simp [c.1, c.2]), at_map _ (by omega), at_map _ (by omega)]
      simp only [decide_eq_true_eq, c.1, c.2, not_false_eq_true, true_and]
      generalize at' ms a = A
      generalize at' ms b = B
      generalize at' ms w.1 = U
      generalize at' ms w.2 = V
      split <;> split <;> omega
    · rw [if_neg (by simpa using c)]
      constructor
      · exact .inl
      · rintro (z | z)
        · exact z
        · exact absurd ⟨z.1, z.2.1⟩ c
theorem marks_iff {m : Int} {net : List Wire} {lot : Lot} (hw : ∀ p ∈ net, WireOk m p) {a b : Int} (ha : 0 ≤ a ∧ a < m) (hb : 0 ≤ b ∧ b < m) : at' (marks m net lot) a = at' (marks m net lot) b ↔ Conn net lot a b := by
  have z := marks_conn (m := m) (lot := lot) net [] (rng 0 m.toNat) (by rw [rng_len]; omega) hw (fun a b ha hb => by
    rw [at_rng (by omega), at_rng (by omega)]
    constructor
    · rintro rfl
      exact .refl
    · intro h
      cases h with
      | refl => rfl
      | step _ d =>
        rcases d.1 with z | z <;> exact (List.not_mem_nil z).elim) a b ha hb
  rwa [List.nil_append] at z
/-! ### the law's own search -/
theorem jstep_true {lot : Lot} {st : List Int × Bool} {p : Wire} (h : (jstep lot st p).2 = false) : st.2 = false ∧ jstep lot st p = st ∧ ¬ (p.1 ∈ st.1 ∧ p.2 ∉ st.1 ∧ p.2 ∉ lot) := by
  unfold jstep at h ⊢
  split at h
  · cases h
  · rename_i c
    rw [if_neg c]
    refine ⟨h, rfl, fun z => c ?_⟩
    simp [z.1, z.2.1, z.2.2]
theorem jwire_true {lot : Lot} {st : List Int × Bool} {p : Wire} (h : (jwire lot st p).2 = false) : st.2 = false ∧ jwire lot st p = st ∧ ¬ (p.1 ∈ st.1 ∧ p.2 ∉ st.1 ∧ p.2 ∉ lot) ∧ ¬ (p.2 ∈ st.1 ∧ p.1 ∉ st.1 ∧ p.1 ∉ lot) := by
  unfold jwire at h ⊢
  obtain ⟨h1, h2, h3⟩ := jstep_true h
  obtain ⟨g1, g2, g3⟩ := jstep_true h1
  rw [g2] at h2 h3 ⊢
  exact ⟨g1, h2, g3, h3⟩
theorem jfold_true {lot : Lot} : ∀ {ps : List Wire} {st : List Int × Bool}, (ps.foldl (jwire lot) st).2 = false → ps.foldl (jwire lot) st = st ∧ ∀ p ∈ ps, ¬ (p.1 ∈ st.1 ∧ p.2 ∉ st.1 ∧ p.2 ∉ lot) ∧ ¬ (p.2 ∈ st.1 ∧ p.1 ∉ st.1 ∧ p.1 ∉ lot)
  | [], st, _ => ⟨rfl, fun p hp => (List.not_mem_nil hp).elim⟩
  | q :: ps, st, h => by
    rw [List.foldl_cons] at h ⊢
    obtain ⟨h1, h2⟩ := jfold_true h
    rw [h1] at h
    obtain ⟨g1, g2, g3⟩ := jwire_true h
    rw [g2] at h1 h2
    rw [g2, h1]
    refine ⟨rfl, fun p hp => ?_⟩
    rcases List.mem_cons.mp
            hp with rfl | hp
    · exact g3
    · exact h2 p hp
structure JI (net : List Wire) (lot : Lot) (h : Int) (s : List Int) : Prop where
  me : h ∈ s
  cn : ∀ x ∈ s, Conn net lot h x
  wk : Walked net h s
section
variable {net : List Wire} {lot : Lot} {h : Int}
theorem jstep_cn (hl : h ∉ lot) {st : List Int × Bool} {p : Wire} (hp : p ∈ net ∨ (p.2, p.1) ∈ net) (g : h ∈ st.1 ∧ ∀ x ∈ st.1, Conn net lot h x) : h ∈ (jstep lot st p).1 ∧ ∀ x ∈ (jstep lot st p).1, Conn net lot h x := by
  unfold jstep
  split
  · rename_i c
    simp only [Bool.and_eq_true, Bool.not_eq_true', decide_eq_false_iff_not, decide_eq_true_eq] at c
    refine ⟨List.mem_append_left _ g.1, fun x hx => ?_⟩
    rcases List.mem_append.mp hx with z | z
    · exact g.2 x z
    · rw
            [List.mem_singleton.mp z]
      exact (g.2 _ c.1).step ⟨hp, (g.2 _ c.1).out hl, c.2.2⟩
  · exact g
theorem jfold_cn (hl : h ∉ lot) : ∀ {ps : List Wire} {st : List Int × Bool}, (∀ p ∈ ps, p ∈ net) → (h ∈ st.1 ∧ ∀ x ∈ st.1, Conn net lot h x) → h ∈ (ps.foldl (jwire lot) st).1 ∧ ∀ x ∈ (ps.foldl (jwire lot) st).1, Conn net lot h x
  | [], _, _, g => g
  | p :: ps, st, hp, g => by
    rw [List.foldl_cons]
    have hm := hp p (List.mem_cons_self ..)
    exact jfold_cn hl (ps := ps) (fun q hq => hp q (List.mem_cons_of_mem _ hq)) (jstep_cn hl (.inr hm) (jstep_cn hl (.inl hm) g))
theorem jloop_spec (hl : h ∉ lot) : ∀ (n : Nat) (s : List Int), unseen net s < n → JI net lot h s → JI net lot h (jloop net lot n (s, true)) ∧ ∀ x ∈ jloop net lot n (s, true), ∀ y, Adj net lot x y → y ∈ jloop net lot n (s, true)
  | 0, s, hn, _ => by omega
  | n + 1, s, hn, g => by
    rw [jloop, if_pos rfl]
    have j0 : Jn net h (unseen net s) (s, false) := ⟨g.wk, by simp⟩
    have j1 := Jn.fold (lot := lot) (ps := net) j0 fun p hp => hp
    have c1 := jfold_cn hl (ps := net) (st := (s, false)) (fun p hp => hp) ⟨g.me, g.cn⟩
    generalize hr : net.foldl (jwire lot) (s, false) = r at j1 c1
    obtain ⟨t, f⟩ := r
    cases f with
    | true =>
      have u := j1.un
      simp only [if_pos] at u
      exact jloop_spec hl n t (by omega) ⟨c1.1, c1.2, j1.wk⟩
    | false =>
      have hf : (net.foldl (jwire lot) (s, false)).2 = false := by rw [hr]
      obtain ⟨e, q⟩ := jfold_true hf
      rw [hr] at e
      cases e
      have e2 : jloop net lot n (s, false) = s := by
        cases n with
        | zero => rfl
        | succ n => rw [jloop, if_neg (by simp)]
      rw [e2]
      refine ⟨g, fun x hx y d => ?_⟩
      obtain ⟨d1, d2, d3⟩ := d
      refine Classical.byContradiction fun hy => ?_
      rcases d1 with z | z
      · exact (q _ z).1 ⟨hx, hy, d3⟩
      · exact (q _ z).2 ⟨hx, hy, d3⟩
theorem unseen_le (s : List Int) : unseen net s ≤ (houses net).length := List.length_filter_le _ _
theorem joined_all (hl : h ∉ lot) : JI net lot h (joined net lot h) ∧ ∀ x ∈ joined net lot h, ∀ y, Adj net lot x y → y ∈ joined net lot h := by
  unfold joined
  refine jloop_spec hl _ [h] (by have := unseen_le (net := net) [h]; omega) ⟨by simp, fun x hx => ?_, ⟨by simp, fun x hx => ?_⟩⟩
  · rw [List.mem_singleton.mp hx]
    exact .refl
  · rw [List.mem_singleton.mp hx]
    exact List.mem_cons_self ..
theorem mem_joined (hl : h ∉ lot) {x : Int} : x ∈ joined net lot h ↔ Conn net lot h x :=
  ⟨fun z => (joined_all hl).1.cn x z, fun z => z.closed (joined_all hl).1.me (joined_all hl).2⟩
theorem joined_nodup (hl : h ∉ lot) : (joined net lot h).Nodup := (joined_all hl).1.wk.nd
end
end Mi
/-! ## M2 -/
namespace Mi
open Dy
/-! ### sides -/
theorem rng_lt (lo : Int) (n : Nat) : (rng lo n).Pairwise (· < ·) := by
  unfold rng
  rw [List.pairwise_map]
  exact List.pairwise_lt_range.imp fun {a b} z => by omega
theorem others_lt (m : Int) (lot : Lot) : (others m lot).Pairwise (· < ·) := (rng_lt 0 _).filter _
theorem others_ok {m : Int} (lot : Lot) : LotOk m (others m lot) := ⟨others_lt m lot, fun x hx => (mem_others.mp hx).1⟩
section
variable {m : Int} {net : List Wire} {lot : Lot}
theorem marks_lenI (hm : 0 ≤ m) : ((marks m net lot).length : Int) = m := by
  unfold marks
  rw [marks_len, rng_len]
  omega
/-- the side of a house -/
def sideAt (m : Int) (net : List Wire) (lot : Lot) (h : Int) : Lot := sideOf m (marks m net lot) lot (at' (marks m net lot) h)
theorem mem_sideAt (hw : ∀ p ∈ net, WireOk m p) {h x : Int} (hh : h ∈ others m lot) : x ∈ sideAt m net lot h ↔ x ∈ others m lot ∧ Conn net lot h x := by
  unfold sideAt
  rw [mem_sideOf]
  constructor
  · rintro ⟨h1, h2⟩
    exact ⟨h1, (marks_iff hw (mem_others.mp hh).1 (mem_others.mp h1).1).mp h2.symm⟩
  · rintro ⟨h1, h2⟩
    exact ⟨h1, ((marks_iff hw (mem_others.mp hh).1 (mem_others.mp h1).1).mpr h2).symm⟩
theorem mem_sides' (hw : ∀ p ∈ net, WireOk m p) {s : Lot} : s ∈ sides m net lot ↔ ∃ h ∈ others m lot, s = sideAt m net lot h := by
  rw [mem_sides]
  constructor
  · rintro ⟨k, hk, e, hs⟩
    obtain ⟨x, hx⟩ := List.exists_mem_of_ne_nil s hs
    have hx2 := hx
    rw [e, mem_sideOf] at hx2
    refine ⟨x, hx2.1, ?_⟩
    unfold sideAt
    rw [hx2.2]
    exact e
  · rintro ⟨h, hh, e⟩
    have hr := (mem_others.mp hh).1
    have hl : ((marks m net lot).length : Int) = m := marks_lenI (by omega)
    have hr2 : ∀ k ∈ marks m net lot, 0 ≤ k ∧ k < m := marks_range (lot := lot) (net := net) (ms := rng 0 m.toNat) (m := m) (fun k hk => by have := mem_rng.mp hk; omega) (by rw [rng_len]; omega) hw
    refine ⟨_, hr2 _ (at_mem (by omega)), e, fun z => ?_⟩
    have : h ∈ s := by
      rw [e]
      exact (mem_sideAt hw hh).mpr ⟨hh, .refl⟩
    rw [z] at this
    exact List.not_mem_nil this
theorem sides_nodup' : (((rng 0 m.toNat).map (sideOf m (marks m net lot) lot)).filter fun s => decide (0 < (s.length : Int))).Nodup := by
  have h1 : ((rng 0 m.toNat).map (sideOf m (marks m net lot) lot)).Pairwise fun s t => s ≠ [] → s ≠ t := by
    rw [List.pairwise_map]
    refine (rng_lt 0 _).imp fun {a b} z hne e => ?_
    obtain ⟨x, hx⟩ := List.exists_mem_of_ne_nil _ hne
    have hx2 := hx
    rw [e] at hx2
    have e1 := (mem_sideOf.mp hx).2
    have e2 := (mem_sideOf.mp hx2).2
    omega
  have h2 := h1.filter fun s => decide (0 < (s.length : Int))
  refine h2.imp_of_mem fun {a b} ha _ z => z ?_
  have := of_decide_eq_true (List.mem_filter.mp ha).2
  intro e
  rw [e] at this
  simp at this
theorem sides_nodup : (sides m net lot).Nodup := sortT_nodup sides_nodup'
theorem sideAt_joined (hw : ∀ p ∈ net, WireOk m p) {h : Int} (hh : h ∈ others m lot) : sideAt m net lot h = sortI (joined net lot h) := by
  have ho := (mem_others.mp hh).2
  have lt1 : (sideAt m net lot h).Pairwise (· < ·) := (others_lt m lot).filter _
  refine sortI_unique ((List.perm_ext_iff_of_nodup (lt_nodup lt1) (joined_nodup ho)).mpr fun x => ?_) (lt1.imp fun {a b} z => Int.le_of_lt z)
  rw [mem_sideAt hw hh, mem_joined ho]
  constructor
  · exact fun z => z.2
  · intro z
    exact ⟨mem_others.mpr ⟨z.range hw (mem_others.mp hh).1, z.out ho⟩, z⟩
/-- the sides as the law finds them -/
theorem sides_law (hw : ∀ p ∈ net, WireOk m p) : sides m net lot = ssort ((others m lot).map fun h => sortI (joined net lot h)) := by
  refine ssort_unique sides_nodup' fun s => ?_
  have e : s ∈ ((rng 0 m.toNat).map (sideOf m (marks m net lot) lot)).filter (fun s => decide (0 < (s.length : Int))) ↔ s ∈ sides m net lot := by
    unfold sides
    rw [mem_sortT]
  rw [e, mem_sides' hw, List.mem_map]
  constructor
  · rintro ⟨h, hh, e⟩
    exact ⟨h, hh, by rw [e, sideAt_joined hw hh]⟩
  · rintro ⟨h, hh, e⟩
    exact ⟨h, hh, by rw [← e, sideAt_joined hw hh]⟩
theorem sides_len (hw : ∀ p ∈ net, WireOk m p) : (sides m net lot).length ≤ (others m lot).length := by
  have z := List.Nodup.length_le_of_subset (sides_nodup (m := m) (net := net) (lot := lot)) (l₂ := (others m lot).map (sideAt m net lot)) fun s hs => by
    obtain ⟨h, hh, e⟩ := (mem_sides' hw).mp hs
    rw [e]
    exact List.mem_map_of_mem hh
  rwa [List.length_map] at z
theorem sideAt_eq (hw : ∀ p ∈ net, WireOk m p) {a b : Int} (ha : a ∈ others m lot) (hb : b ∈ others m lot) : sideAt m net lot a = sideAt m net lot b ↔ Conn net lot a b := by
  constructor
  · intro e
    have : b ∈ sideAt m net lot a := by
      rw [e]
      exact (mem_sideAt hw hb).mpr ⟨hb, .refl⟩
    exact ((mem_sideAt hw ha).mp this).2
  · intro h
    have := (marks_iff hw (mem_others.mp ha).1 (mem_others.mp hb).1).mpr h
    unfold sideAt
    rw [this]
theorem two_of_nodup {α : Type} {xs : List α} (nd : xs.Nodup) (h : 1 < xs.length) : ∃ a ∈ xs, ∃ b ∈ xs, a ≠ b := by
  match xs, nd, h with
  | [], _, h => simp at h
  | [_], _, h => simp at h
  | a :: b :: r, nd, _ =>
    refine ⟨a, by simp, b, by simp, ?_⟩
    have := (List.nodup_cons.mp nd).1
    intro e
    exact this (by rw [e]; simp)
theorem one_of_two {α : Type} {xs : List α} {a b : α} (ha : a ∈ xs) (hb : b ∈ xs) (hne : a ≠ b) : 1 < xs.length := by
  match xs, ha, hb with
  | [], ha, _ => exact (List.not_mem_nil ha).elim
  | [x], ha, hb =>
    rw [List.mem_singleton.mp ha, List.mem_singleton.mp hb] at hne
    exact absurd rfl hne
  | x :: y :: r, _, _ =>
    simp only [List.length_cons]
    omega
/-- more than one side: as the law finds it -/
theorem dividedBy_eq (hw : ∀ p ∈ net, WireOk m p) : dividedBy m net lot = decide (1 < ((sides m net lot).length : Int)) := by
  unfold dividedBy
  have hsl := sides_len (lot := lot) hw
  by_cases c : 1 < ((others m lot).length : Int)
  · rw [decide_eq_true c, Bool.true_and]
    have h0 : at' (others m lot) 0 ∈ others m lot := at_mem (by omega)
    generalize at' (others m lot) 0 = o at h0
    have ho := (mem_others.mp h0).2
    have sub : ∀ x ∈ joined net lot o, x ∈ others m lot := fun x hx => by
      have z := (mem_joined ho).mp hx
      exact mem_others.mpr ⟨z.range hw (mem_others.mp h0).1, z.out ho⟩
    have jl := List.Nodup.length_le_of_subset (joined_nodup (net := net) ho) (l₂ := others m lot) sub
    refine decide_eq_decide.mpr ?_
    constructor
    · intro h
      obtain ⟨x, hx, hn⟩ : ∃ x ∈ others m lot, x ∉ joined net lot o := by
        refine Classical.byContradiction fun z => ?_
        have z2 : ∀ x ∈ others m lot, x ∈ joined net lot o := fun x hx => Classical.byContradiction fun y => z ⟨x, hx, y⟩
        have := List.Nodup.length_le_of_subset (lt_nodup (others_lt m lot)) (l₂ := joined net lot o) z2
        omega
      have := one_of_two ((mem_sides' hw).mpr ⟨o, h0, rfl⟩) ((mem_sides' hw).mpr ⟨x, hx, rfl⟩) fun e => hn ((mem_joined ho).mpr ((sideAt_eq hw h0 hx).mp e))
      omega
    · intro h
      obtain ⟨s, hs, t, ht, hne⟩ := two_of_nodup (sides_nodup (m := m) (net := net) (lot := lot)) (by omega)
      obtain ⟨a, ha, rfl⟩ := (mem_sides' hw).mp hs
      obtain ⟨b, hb, rfl⟩ := (mem_sides' hw).mp ht
      refine Classical.byContradiction fun z => ?_
      have all : ∀ x ∈ others m lot, x ∈ joined net lot o := by
        intro x hx
        refine Classical.byContradiction fun y => z ?_
        have nd2 : (x :: joined net lot o).Nodup := List.nodup_cons.mpr ⟨y, joined_nodup ho⟩
        have := List.Nodup.length_le_of_subset nd2 (l₂ := others m lot) fun u hu => by
          rcases List.mem_cons.mp
                  hu with rfl | hu
          · exact hx
          · exact sub u hu
        rw [List.length_cons] at this
        omega
      have ca := (mem_joined ho).mp (all a ha)
      have cb := (mem_joined ho).mp (all b hb)
      exact hne ((sideAt_eq hw ha hb).mpr (ca.symm.trans cb))
  · rw [decide_eq_false c, Bool.false_and, decide_eq_false (by omega)]
theorem divided_eq (hw : ∀ p ∈ net, WireOk m p) (fe : List Lot) : divided m net fe = fe.filter fun l => decide (1 < ((sides m net l).length : Int)) := by
  unfold divided
  congr 1
  funext l
  exact dividedBy_eq hw
theorem side_both (hw : ∀ p ∈ net, WireOk m p) {a b : Int} (ha : a ∈ others m lot) (hb : b ∈ others m lot) : (∃ s ∈ sides m net lot, a ∈ s ∧ b ∈ s) ↔ Conn net lot a b := by
  constructor
  · rintro ⟨s, hs, h1, h2⟩
    obtain ⟨h, hh, rfl⟩ := (mem_sides' hw).mp hs
    exact ((mem_sideAt hw hh).mp h1).2.symm.trans ((mem_sideAt hw hh).mp h2).2
  · intro c
    exact ⟨_, (mem_sides' hw).mpr ⟨a, ha, rfl⟩, (mem_sideAt hw ha).mpr ⟨ha, .refl⟩, (mem_sideAt hw ha).mpr ⟨hb, c⟩⟩
theorem divides_eq (hw : ∀ p ∈ net, WireOk m p) {a b : Int} (ha : a ∈ others m lot) (hb : b ∈ others m lot) : divides m net lot a b = !decide (b ∈ joined net lot a) := by
  unfold divides
  congr 1
  rw [Bool.eq_iff_iff, List.any_eq_true, decide_eq_true_eq, mem_joined (mem_others.mp ha).2, ← side_both hw ha hb]
  simp only [Bool.and_eq_true,
          decide_eq_true_eq]
/-- one side has both, if one has -/
theorem both_len (hw : ∀ p ∈ net, WireOk m p) {a b : Int} (ha : a ∈ others m lot) (hb : b ∈ others m lot) : ((sides m net lot).filter fun s => decide (a ∈ s) && decide (b ∈ s)).length ≤ 1 ∧ (((sides m net lot).filter fun s => decide (a ∈ s) && decide (b ∈ s)).length = 1 ↔ Conn net lot a b) := by
  have nd : ((sides m net lot).filter fun s => decide (a ∈ s) && decide (b ∈ s)).Nodup := sides_nodup.filter _
  have sub : ∀ s ∈ (sides m net lot).filter fun s => decide (a ∈ s) && decide (b ∈ s), s = sideAt m net lot a := fun s hs => by
    obtain ⟨h1, h2⟩ := List.mem_filter.mp hs
    simp only [Bool.and_eq_true,
            decide_eq_true_eq] at h2
    obtain ⟨h, hh, rfl⟩ := (mem_sides' hw).mp h1
    exact (sideAt_eq hw hh ha).mpr ((mem_sideAt hw hh).mp h2.1).2
  have l1 := List.Nodup.length_le_of_subset nd (l₂ := [sideAt m net lot a]) fun s hs => List.mem_singleton.mpr (sub s hs)
  refine ⟨l1, ?_⟩
  rw [← side_both hw ha hb]
  constructor
  · intro h
    obtain ⟨s, hs⟩ := List.exists_mem_of_length_pos (l := (sides m net lot).filter fun s => decide (a ∈ s) && decide (b ∈ s)) (by omega)
    obtain ⟨h1, h2⟩ := List.mem_filter.mp hs
    simp only [Bool.and_eq_true,
            decide_eq_true_eq] at h2
    exact ⟨s, h1, h2⟩
  · rintro ⟨s, hs, h1, h2⟩
    have hm : s ∈ (sides m net lot).filter fun s => decide (a ∈ s) && decide (b ∈ s) := List.mem_filter.mpr ⟨hs, by simp [h1, h2]⟩
    have := List.length_pos_of_mem hm
    simp only [List.length_singleton] at l1
    omega
end
end Mi
/-! ## M3 -/
namespace Mi
open Dy
/-! ### a shortest way -/
theorem lastD_snoc (w : Lot) (x : Int) : lastD (w ++ [x]) = x := by
  unfold lastD
  simp
theorem lastD_mem {w : Lot} (h : w ≠ []) : lastD w ∈ w := by
  have hl := List.length_pos_iff.mpr h
  unfold lastD
  rw [List.getD_eq_getElem?_getD, List.getElem?_eq_getElem (show w.length - 1 < w.length by omega)]
  exact List.getElem_mem _
theorem wired_iff {m : Int} {net : List Wire} (hw : ∀ p ∈ net, WireOk m p) {a x : Int} : x ∈ wired net a ↔ (a, x) ∈ net ∨ (x, a) ∈ net := by
  rw [mem_wired]
  constructor
  · rintro ⟨⟨u, v⟩, hp, ⟨e1, e2⟩ | ⟨_, e1, e2⟩⟩
    · simp only at e1 e2
      subst e1 e2
      exact .inl hp
    · simp only at e1 e2
      subst e1 e2
      exact .inr hp
  · rintro (h | h)
    · exact ⟨_, h, .inl ⟨rfl, rfl⟩⟩
    · refine ⟨_, h, .inr ⟨?_, rfl, rfl⟩⟩
      have := (hw _ h).2.1
      simp only at this ⊢
      omega
/-- a way from a house, outside a lot -/
structure Way (net : List Wire) (lot : Lot) (a : Int) (w : Lot) : Prop where
  hd : w[0]? = some a
  nd : w.Nodup
  out : ∀ x ∈ w, x ∉ lot
  wires : ∀ (i : Nat) (x y : Int), w[i]? = some x → w[i + 1]? = some y → (x, y) ∈ net ∨ (y, x) ∈ net
theorem Way.ne {net : List Wire} {lot : Lot} {a : Int} {w : Lot} (h : Way net lot a w) : w ≠ [] := fun e => by
  have := h.hd
  rw [e] at this
  cases this
theorem lastD_get {w : Lot} (h : w ≠ []) : w[w.length - 1]? = some (lastD w) := by
  have hl := List.length_pos_iff.mpr h
  unfold lastD
  rw [List.getD_eq_getElem?_getD, List.getElem?_eq_getElem (show w.length - 1 < w.length by omega)]
  rfl
theorem Way.snoc {net : List Wire} {lot : Lot} {a x : Int} {w : Lot} (h : Way net lot a w) (hx : x ∉ w) (hl : x ∉ lot) (hn : (lastD w, x) ∈ net ∨ (x, lastD w) ∈ net) : Way net lot a (w ++ [x]) where
  hd := by
    rw [List.getElem?_append_left (List.length_pos_iff.mpr h.ne)]
    exact h.hd
  nd := List.nodup_append.mpr ⟨h.nd, by simp, fun u hu v hv e => by
    rw [List.mem_singleton.mp hv] at e
    exact hx (e ▸ hu)⟩
  out y hy := by
    rcases List.mem_append.mp hy with z | z
    · exact h.out y z
    · rw
            [List.mem_singleton.mp z]
      exact hl
  wires i u v hu hv := by
    have hl := List.length_pos_iff.mpr h.ne
    by_cases c : i + 1 < w.length
    · rw [List.getElem?_append_left (by omega)] at hu
      rw [List.getElem?_append_left c] at hv
      exact h.wires i u v hu hv
    · have c2 : i + 1 < (w ++ [x]).length := (List.getElem?_eq_some_iff.mp hv).1
      rw [List.length_append, List.length_singleton] at c2
      have e : i = w.length - 1 := by omega
      rw [List.getElem?_append_left (by omega), e, lastD_get h.ne] at hu
      rw [List.getElem?_append_right (by omega), show i + 1 - w.length = 0 by omega] at hv
      cases hu
      cases hv
      exact hn
/-! one layer -/
theorem grow_fold {lot way : Lot} : ∀ (hs : List Int) (st : List Int × List Lot),
    (∀ x, x ∈ (hs.foldl (grow lot way) st).1 ↔ x ∈ st.1 ∨ (x ∉ lot ∧ x ∈ hs)) ∧ (∀ w, w ∈ (hs.foldl (grow lot way) st).2 → w ∈ st.2 ∨ ∃ x ∈ hs, x ∉ lot ∧ x ∉ st.1 ∧ w = way ++ [x]) ∧ (∀ w ∈ st.2, w ∈ (hs.foldl (grow lot way) st).2) ∧ (∀ x, x ∈ (hs.foldl (grow lot way) st).1 → x ∉ st.1 → way ++ [x] ∈ (hs.foldl (grow lot way) st).2)
  | [], st => ⟨fun x => by simp, fun w h => .inl h, fun w h => h, fun x h n => absurd h n⟩
  | h :: hs, st => by
    rw [List.foldl_cons]
    obtain ⟨i1, i2, i3, i4⟩ := grow_fold (lot := lot) (way := way) hs (grow lot way st h)
    by_cases c : h ∉ lot ∧ h ∉ st.1
    · have e : grow lot way st h = (st.1 ++ [h], st.2 ++ [way ++ [h]]) := by
        unfold grow
        rw [if_pos (by simp [c.1, c.2])]
      rw [e] at i1 i2 i3 i4 ⊢
      refine ⟨fun x => ?_, fun w hw => ?_, fun w hw => i3 w (List.mem_append_left _ hw), fun x hx hn => ?_⟩
      · rw [i1 x]
        simp only [List.mem_append, List.mem_cons, List.not_mem_nil, or_false]
        constructor
        · rintro ((z | z) | z)
          · exact .inl z
          · exact .inr ⟨z ▸ c.1, .inl z⟩
          · exact .inr ⟨z.1, .inr z.2⟩
        · rintro (z | ⟨z, y | y⟩)
          · exact .inl (.inl z)
          · exact .inl (.inr y)
          · exact .inr ⟨z, y⟩
      · rcases i2 w hw with z | ⟨x, hx, h1, h2, h3⟩
        · rcases List.mem_append.mp z with z | z
          · exact .inl z
          · exact .inr ⟨h, by simp, c.1, c.2, List.mem_singleton.mp z⟩
        · exact .inr ⟨x, List.mem_cons_of_mem _ hx, h1, fun y => h2 (List.mem_append_left _ y), h3⟩
      · by_cases c2 : x = h
        · subst c2
          exact i3 _ (by simp)
        · exact i4 x hx fun y => by
            rcases List.mem_append.mp y with z | z
            · exact hn z
            · exact c2 (List.mem_singleton.mp z)
    · have e : grow lot way st h = st := by
        unfold grow
        rw [if_neg]
        intro z
        simp only [Bool.and_eq_true, Bool.not_eq_true', decide_eq_false_iff_not] at z
        exact c z
      rw [e] at i1 i2 i3 i4 ⊢
      refine ⟨fun x => ?_, fun w hw => ?_, i3, i4⟩
      · rw [i1 x]
        simp only [List.mem_cons]
        constructor
        · rintro (z | z)
          · exact .inl z
          · exact .inr ⟨z.1, .inr z.2⟩
        · rintro (z | ⟨z, y | y⟩)
          · exact .inl z
          · refine .inl (Classical.byContradiction fun q => c ⟨y ▸ z, y ▸ q⟩)
          · exact .inr ⟨z, y⟩
      · rcases i2 w hw with z | ⟨x, hx, z⟩
        · exact .inl z
        · exact .inr ⟨x, List.mem_cons_of_mem _ hx, z⟩
/-- the layer's ways have been gone through -/
structure LI (net : List Wire) (lot : Lot) (seen0 : List Int) (ws : List Lot) (st : List Int × List Lot) : Prop where
  seen : ∀ x, x ∈ st.1 ↔ x ∈ seen0 ∨ ∃ w ∈ ws, x ∉ lot ∧ x ∈ wired net (lastD w)
  way : ∀ w' ∈ st.2, ∃ w ∈ ws, ∃ x, x ∈ wired net (lastD w) ∧ x ∉ lot ∧ x ∉ seen0 ∧ w' = w ++ [x]
  last : ∀ x ∈ st.1, x ∉ seen0 → ∃ w' ∈ st.2, lastD w' = x
theorem li_fold {net : List Wire} {lot : Lot} {seen0 : List Int} : ∀ (ws pre : List Lot) (st : List Int × List Lot), LI net lot seen0 pre st → LI net lot seen0 (pre ++ ws) (ws.foldl (fun st w => growAll net lot w st) st)
  | [], pre, st, h => by
    rw [List.append_nil]
    exact h
  | w :: ws, pre, st, h => by
    have e : pre ++ w :: ws = (pre ++ [w]) ++ ws := by simp
    rw [e, List.foldl_cons]
    refine li_fold ws (pre ++ [w]) _ ?_
    obtain ⟨g1, g2, g3, g4⟩ := grow_fold (lot := lot) (way := w) (wired net (lastD w)) st
    unfold growAll
    refine ⟨fun x => ?_, fun w' hw' => ?_, fun x hx hn => ?_⟩
    · rw [g1 x, h.seen x]
      constructor
      · rintro ((z | ⟨v, hv, z⟩) | z)
        · exact .inl z
        · exact .inr ⟨v, List.mem_append_left _ hv, z⟩
        · exact .inr ⟨w, by simp, z⟩
      · rintro (z | ⟨v, hv, z⟩)
        · exact .inl (.inl z)
        · rcases List.mem_append.mp hv with y | y
          · exact .inl (.inr ⟨v, y, z⟩)
          · rw [List.mem_singleton.mp y] at z
            exact .inr z
    · rcases g2 w' hw' with z | ⟨x, hx, h1, h2, h3⟩
      · obtain ⟨v, hv, z⟩ := h.way w' z
        exact ⟨v, List.mem_append_left _ hv, z⟩
      · exact ⟨w, by simp, x, hx, h1, fun y => h2 ((h.seen x).mpr (.inl y)), h3⟩
    · by_cases c : x ∈ st.1
      · obtain ⟨w', hw', z⟩ := h.last x c hn
        exact ⟨w', g3 w' hw', z⟩
      · exact ⟨_, g4 x hx c, lastD_snoc _ _⟩
structure BI (net : List Wire) (lot : Lot) (a other : Int) (k : Int) (ways : List Lot) (seen : List Int) : Prop where
  way : ∀ w ∈ ways, Way net lot a w ∧ (w.length : Int) = k ∧ ∀ x ∈ w, x ∈ seen
  me : a ∈ seen
  cn : ∀ x ∈ seen, Conn net lot a x
  cl : ∀ x ∈ seen, (∃ w ∈ ways, lastD w = x) ∨ (x ≠ other ∧ ∀ y, Adj net lot x y → y ∈ seen)
  wk : Walked net a seen
section
variable {m : Int} {net : List Wire} {lot : Lot} {a other : Int}
theorem bi_next (hw : ∀ p ∈ net, WireOk m p) {k : Int} {ways : List Lot} {seen : List Int} {st : List Int × List Lot} (b : BI net lot a other k ways seen) (h : layer net lot other ways (seen, []) = .inr st) :
    BI net lot a other (k + 1) st.2 st.1 ∧ st.2.length + unseen net st.1 ≤ unseen net seen ∧ LI net lot seen ways st := by
  obtain ⟨hno, rfl⟩ := layer_inr h
  have li := li_fold (net := net) (lot := lot) (seen0 := seen) ways [] (seen, []) ⟨fun x => by simp, fun w hw => (List.not_mem_nil hw).elim, fun x hx hn => absurd hx hn⟩
  rw [List.nil_append] at li
  have gr : Grown net a (unseen net seen) (seen, []) := ⟨b.wk.nd, b.wk.sub, Nat.zero_le _, fun w hw => (List.not_mem_nil hw).elim, by simp⟩
  obtain ⟨g, gl⟩ := Grown.all (lot := lot) (ws := ways) gr fun w hw => by
    obtain ⟨h1, _, h3⟩ := b.way w hw
    exact List.Nodup.length_le_of_subset h1.nd h3
  generalize ways.foldl (fun st w => growAll net lot w st) (seen, []) = st at li g
  refine ⟨⟨fun w' hw' => ?_, (li.seen _).mpr (.inl b.me), fun x hx => ?_, fun x hx => ?_, ⟨g.nd, g.sub⟩⟩, g.un, li⟩
  · obtain ⟨w, hw1, x, hx, hxl, hxs, rfl⟩ := li.way w' hw'
    obtain ⟨h1, h2, h3⟩ := b.way w hw1
    refine ⟨h1.snoc (fun z => hxs (h3 x z)) hxl ((wired_iff hw).mp hx), by rw [List.length_append, List.length_singleton]; omega, fun y hy => ?_⟩
    rcases List.mem_append.mp hy with z | z
    · exact (li.seen _).mpr (.inl (h3 y z))
    · rw
            [List.mem_singleton.mp z]
      exact (li.seen _).mpr (.inr ⟨w, hw1, hxl, hx⟩)
  · rcases (li.seen x).mp hx with z | ⟨w, hw1, hxl, hx⟩
    · exact b.cn x z
    · obtain ⟨h1, h2, h3⟩ := b.way w hw1
      have hlm := lastD_mem h1.ne
      exact (b.cn _ (h3 _ hlm)).step ⟨(wired_iff hw).mp hx, h1.out _ hlm, hxl⟩
  · by_cases c : x ∈ seen
    · right
      rcases b.cl x c with ⟨w, hw1, e⟩ | z
      · refine ⟨e ▸ hno w hw1, fun y d => (li.seen y).mpr (.inr ⟨w, hw1, d.2.2, ?_⟩)⟩
        rw [e]
        exact (wired_iff hw).mpr d.1
      · exact ⟨z.1, fun y d => (li.seen y).mpr (.inl (z.2 y d))⟩
    · exact .inl (li.last x hx c)
theorem layer_inl : ∀ {ws : List Lot} {st : List Int × List Lot} {w : Lot}, layer net lot other ws st = .inl w → w ∈ ws ∧ lastD w = other
  | [], st, w, h => by cases h
  | v :: ws, st, w, h => by
    unfold layer at h
    by_cases c : lastD v = other
    · rw [if_pos (decide_eq_true c)] at h
      cases h
      exact ⟨by simp, c⟩
    · rw [if_neg (by simpa using c)] at h
      obtain ⟨h1, h2⟩ := layer_inl h
      exact ⟨List.mem_cons_of_mem
              _ h1, h2⟩
theorem bfs_spec (hw : ∀ p ∈ net, WireOk m p) : ∀ (n : Nat) (ways : List Lot) (seen : List Int) (k : Int), BI net lot a other k ways seen → (unseen net seen + 2 ≤ n ∨ (ways = [] ∧ 1 ≤ n)) →
    (∀ w, bfs net lot other n ways seen = some w → Way net lot a w ∧ lastD w = other) ∧ (bfs net lot other n ways seen = none → ¬ Conn net lot a other)
  | 0, ways, seen, k, b, hn => by omega
  | n + 1, ways, seen, k, b, hn => by
    rw [bfs]
    by_cases c : 0 < (ways.length : Int)
    · rw [if_pos
            (decide_eq_true c)]
      cases h : layer net lot other ways (seen, []) with
      | inl w =>
        obtain ⟨h1, h2⟩ := layer_inl h
        refine ⟨fun w' e => ?_, fun e => nomatch e⟩
        cases e
        exact ⟨(b.way w h1).1, h2⟩
      | inr st =>
        obtain ⟨b1, u1, _⟩ := bi_next hw b h
        refine bfs_spec hw n st.2 st.1 (k + 1) b1 ?_
        rcases hn with hn | hn
        · by_cases c2 : st.2 = []
          · exact .inr ⟨c2, by omega⟩
          · have := List.length_pos_iff.mpr c2
            exact .inl (by omega)
        · rw [hn.1] at c
          simp at c
    · rw [if_neg (by simpa using c)]
      refine ⟨(fun w e => nomatch e), fun _ hc => ?_⟩
      have hw0 : ways = [] := List.length_eq_zero_iff.mp (by omega)
      have cl : ∀ x ∈ seen, x ≠ other ∧ ∀ y, Adj net lot x y → y ∈ seen := fun x hx => by
        rcases b.cl x hx with ⟨w, h, _⟩ | z
        · rw [hw0] at h
          exact (List.not_mem_nil h).elim
        · exact z
      have := hc.closed b.me fun x hx => (cl x hx).2
      exact (cl _ this).1 rfl
theorem bi_start (ha : a ∉ lot) : BI net lot a other 1 [[a]] [a] where
  way w hw := by
    rw [List.mem_singleton.mp hw]
    refine ⟨⟨rfl, by simp, fun x hx => ?_, fun i x y _ h => ?_⟩, rfl, fun x hx => hx⟩
    · rw [List.mem_singleton.mp hx]
      exact ha
    · simp at h
  me := by simp
  cn x hx := by
    rw [List.mem_singleton.mp hx]
    exact .refl
  cl x hx := by
    rw [List.mem_singleton.mp hx]
    exact .inl ⟨[a], by simp, rfl⟩
  wk := ⟨by simp, fun x hx => by
    rw [List.mem_singleton.mp hx]
    exact List.mem_cons_self ..⟩
/-- the way found is a way; none is found if there is none -/
theorem bareWay_spec (hw : ∀ p ∈ net, WireOk m p) (ha : a ∉ lot) : (∀ w, bareWay net lot a other = some w → Way net lot a w ∧ lastD w = other) ∧ (bareWay net lot a other = none → ¬ Conn net lot a other) :=
  bfs_spec hw _ _ _ 1 (bi_start ha) (.inl (by have := unseen_le (net := net) [a]; omega))
theorem way_conn {w : Lot} (h : Way net lot a w) : ∀ (i : Nat) (x : Int), w[i]? = some x → Conn net lot a x
  | 0, x, e => by
    rw [h.hd] at e
    cases e
    exact .refl
  | i + 1, x, e => by
    have hl : i + 1 < w.length := (List.getElem?_eq_some_iff.mp e).1
    have e1 : w[i]? = some w[i] := List.getElem?_eq_getElem (by omega)
    exact (way_conn h i _ e1).step ⟨h.wires i _ _ e1 e, h.out _ (List.mem_of_getElem? e1), h.out _ (List.mem_of_getElem? e)⟩
theorem bareWay_some (hw : ∀ p ∈ net, WireOk m p) (ha : a ∉ lot) : (bareWay net lot a other).isSome = true ↔ Conn net lot a other := by
  obtain ⟨h1, h2⟩ := bareWay_spec (other := other) hw ha
  cases h : bareWay net lot a other with
  | none =>
    refine ⟨(fun z => nomatch z), fun z => absurd z (h2 h)⟩
  | some w =>
    refine ⟨fun _ => ?_, fun _ => rfl⟩
    obtain ⟨h3, h4⟩ := h1 w h
    rw [← h4]
    exact way_conn h3 _ _ (lastD_get h3.ne)
/-! the law's own reckoning of its length -/
theorem lstep_spec {lay : List Int} {st : List Int × List Int} {p : Wire} : (∀ x, x ∈ (lstep lot lay st p).2 ↔ x ∈ st.2 ∨ (x ∉ lot ∧ p.1 ∈ lay ∧ p.2 = x)) ∧ (∀ x, x ∈ (lstep lot lay st p).1 ↔ x ∈ st.1 ∨ (x ∈ (lstep lot lay st p).2 ∧ x ∉ st.2)) := by
  unfold lstep
  by_cases c : p.1 ∈ lay ∧ p.2 ∉ st.2 ∧ p.2 ∉ lot
  · rw [if_pos (by simp [c.1, c.2.1, c.2.2])]
    constructor
    · intro x
      simp only [List.mem_append, List.mem_cons, List.not_mem_nil, or_false]
      constructor
      · rintro (z | z)
        · exact .inl z
        · exact .inr ⟨z ▸ c.2.2, c.1, z.symm⟩
      · rintro (z | z)
        · exact .inl z
        · exact .inr z.2.2.symm
    · intro x
      simp only [List.mem_append, List.mem_cons, List.not_mem_nil, or_false]
      constructor
      · rintro (z | z)
        · exact .inl z
        · exact .inr ⟨.inr z, z ▸ c.2.1⟩
      · rintro (z | ⟨z | z, y⟩)
        · exact .inl z
        · exact absurd z y
        · exact .inr z
  · have c2 : ¬ ((decide (p.1 ∈ lay) && (!decide (p.2 ∈ st.2) && !decide (p.2 ∈ lot))) = true) := fun z => c (by simpa using z)
    rw [if_neg c2]
    constructor
    · intro x
      constructor
      · exact .inl
      · rintro (z | ⟨z1, z2, z3⟩)
        · exact z
        · refine Classical.byContradiction fun q => c ⟨z2, ?_, ?_⟩
          · rw [z3]
            exact q
          · rw [z3]
            exact z1
    · intro x
      constructor
      · exact .inl
      · rintro (z | ⟨z, y⟩)
        · exact z
        · exact absurd z y
theorem lwire_spec {lay : List Int} {st : List Int × List Int} {p : Wire} : (∀ x, x ∈ (lwire lot lay st p).2 ↔ x ∈ st.2 ∨ (x ∉ lot ∧ ((p.1 ∈ lay ∧ p.2 = x) ∨ (p.2 ∈ lay ∧ p.1 = x)))) ∧ (∀ x, x ∈ (lwire lot lay st p).1 ↔ x ∈ st.1 ∨ (x ∈ (lwire lot lay st p).2 ∧ x ∉ st.2)) := by
  unfold lwire
  obtain ⟨a1, a2⟩ := lstep_spec (lot := lot) (lay := lay) (st := st) (p := p)
  obtain ⟨b1, b2⟩ := lstep_spec (lot := lot) (lay := lay) (st := lstep lot lay st p) (p := (p.2, p.1))
  refine ⟨fun x => ?_, fun x => ?_⟩
  · rw [b1 x, a1 x]
    constructor
    · rintro ((z | z) | z)
      · exact .inl z
      · exact .inr ⟨z.1, .inl z.2⟩
      · exact .inr ⟨z.1, .inr z.2⟩
    · rintro (z | ⟨z, y | y⟩)
      · exact .inl (.inl z)
      · exact .inl (.inr ⟨z, y⟩)
      · exact .inr ⟨z, y⟩
  · rw [b2 x, a2 x]
    have u1 : x ∈ st.2 → x ∈ (lstep lot lay st p).2 := fun z => (a1 x).mpr (.inl z)
    have u2 : x ∈ (lstep lot lay st p).2 → x ∈ (lstep lot lay (lstep lot lay st p) (p.2, p.1)).2 := fun z => (b1 x).mpr (.inl z)
    constructor
    · rintro ((z | z) | z)
      · exact .inl z
      · exact .inr ⟨u2 z.1, z.2⟩
      · exact .inr ⟨z.1, fun y => z.2 (u1 y)⟩
    · rintro (z | ⟨z, y⟩)
      · exact .inl (.inl z)
      · by_cases q : x ∈ (lstep lot lay st p).2
        · exact .inl (.inr ⟨q, y⟩)
        · exact .inr ⟨z, q⟩
theorem lfold_spec {lay : List Int} : ∀ (ps : List Wire) (st : List Int × List Int), (∀ x, x ∈ (ps.foldl (lwire lot lay) st).2 ↔ x ∈ st.2 ∨ (x ∉ lot ∧ ∃ p ∈ ps, (p.1 ∈ lay ∧ p.2 = x) ∨ (p.2 ∈ lay ∧ p.1 = x))) ∧ (∀ x, x ∈ (ps.foldl (lwire lot lay) st).1 ↔ x ∈ st.1 ∨ (x ∈ (ps.foldl (lwire lot lay) st).2 ∧ x ∉ st.2))
  | [], st => ⟨fun x => by simp, fun x => ⟨.inl, fun z => z.elim id fun y => absurd y.1 y.2⟩⟩
  | q :: ps, st => by
    rw [List.foldl_cons]
    obtain ⟨a1, a2⟩ := lwire_spec (lot := lot) (lay := lay) (st := st) (p := q)
    obtain ⟨b1, b2⟩ := lfold_spec (lay := lay) ps (lwire lot lay st q)
    refine ⟨fun x => ?_, fun x => ?_⟩
    · rw [b1 x, a1 x]
      constructor
      · rintro ((z | z) | ⟨z, p, hp, y⟩)
        · exact .inl z
        · exact .inr ⟨z.1, q, by simp, z.2⟩
        · exact .inr ⟨z, p, List.mem_cons_of_mem _ hp, y⟩
      · rintro (z | ⟨z, p, hp, y⟩)
        · exact .inl (.inl z)
        · rcases List.mem_cons.mp
                hp with rfl | hp
          · exact .inl (.inr ⟨z, y⟩)
          · exact .inr ⟨z, p, hp, y⟩
    · rw [b2 x, a2 x]
      have u1 : x ∈ st.2 → x ∈ (lwire lot lay st q).2 := fun z => (a1 x).mpr (.inl z)
      have u2 : x ∈ (lwire lot lay st q).2 → x ∈ (ps.foldl (lwire lot lay) (lwire lot lay st q)).2 := fun z => (b1 x).mpr (.inl z)
      constructor
      · rintro ((z | z) | z)
        · exact .inl z
        · exact .inr ⟨u2 z.1, z.2⟩
        · exact .inr ⟨z.1, fun y => z.2 (u1 y)⟩
      · rintro (z | ⟨z, y⟩)
        · exact .inl (.inl z)
        · by_cases q : x ∈ (lwire lot lay st q).2
          · exact .inl (.inr ⟨q, y⟩)
          · exact .inr ⟨z, q⟩
theorem bfs_long (hw : ∀ p ∈ net, WireOk m p) : ∀ (n : Nat) (ways : List Lot) (seen lay seenL : List Int) (k : Int) (w : Lot), BI net lot a other k ways seen → (∀ x, x ∈ lay ↔ ∃ w ∈ ways, lastD w = x) → (∀ x, x ∈ seenL ↔ x ∈ seen) → bfs net lot other n ways seen = some w → lloop net lot other n lay seenL k = (w.length : Int)
  | 0, ways, seen, lay, seenL, k, w, b, r1, r2, e => by cases e
  | n + 1, ways, seen, lay, seenL, k, w, b, r1, r2, e => by
    rw [bfs] at e
    by_cases c : 0 < (ways.length : Int)
    · rw [if_pos (decide_eq_true c)] at e
      have hne : lay ≠ [] := fun z => by
        obtain ⟨v, hv⟩ := List.exists_mem_of_length_pos (l := ways) (by omega)
        have := (r1 (lastD v)).mpr ⟨v, hv, rfl⟩
        rw [z] at this
        exact List.not_mem_nil this
      rw [lloop, if_neg hne]
      cases h : layer net lot other ways (seen, []) with
      | inl w' =>
        rw [h] at e
        cases e
        obtain ⟨h1, h2⟩ := layer_inl h
        rw [if_pos ((r1 other).mpr ⟨w, h1, h2⟩)]
        exact (b.way w h1).2.1.symm
      | inr st =>
        rw [h] at e
        have hno := (layer_inr h).1
        rw [if_neg (fun z => by
          obtain ⟨v, hv, e⟩ := (r1 other).mp z
          exact hno v hv e)]
        obtain ⟨b1, u1, li⟩ := bi_next hw b h
        obtain ⟨f1, f2⟩ := lfold_spec (lot := lot) (lay := lay) net ([], seenL)
        have s2 : ∀ x, x ∈ (net.foldl (lwire lot lay) ([], seenL)).2 ↔ x ∈ st.1 := fun x => by
          rw [f1 x, li.seen x, r2 x]
          refine or_congr Iff.rfl ?_
          constructor
          · rintro ⟨hx, p, hp, ⟨q1, q2⟩ | ⟨q1, q2⟩⟩
            · obtain ⟨v, hv, ev⟩ := (r1 _).mp q1
              refine ⟨v, hv, hx, ?_⟩
              rw [ev, wired_iff hw, ← q2]
              exact .inl hp
            · obtain ⟨v, hv, ev⟩ := (r1 _).mp q1
              refine ⟨v, hv, hx, ?_⟩
              rw [ev, wired_iff hw, ← q2]
              exact .inr hp
          · rintro ⟨v, hv, hx, hx2⟩
            have hl := (r1 _).mpr ⟨v, hv, rfl⟩
            rcases (wired_iff hw).mp hx2 with z | z
            · exact ⟨hx, _, z, .inl ⟨hl, rfl⟩⟩
            · exact ⟨hx, _, z, .inr ⟨hl, rfl⟩⟩
        refine bfs_long hw n st.2 st.1 _ _ (k + 1) w b1 (fun x => ?_) s2 e
        rw [f2 x, s2 x, r2 x]
        constructor
        · rintro (z | ⟨z, y⟩)
          · exact (List.not_mem_nil z).elim
          · exact li.last x z y
        · rintro ⟨w', hw', ev⟩
          obtain ⟨v, hv, y, hy, hyl, hys, rfl⟩ := li.way w' hw'
          rw [lastD_snoc] at ev
          subst ev
          exact .inr ⟨(li.seen _).mpr (.inr ⟨v, hv, hyl, hy⟩), hys⟩
    · rw [if_neg (by simpa using c)] at e
      cases e
theorem long_eq (hw : ∀ p ∈ net, WireOk m p) (ha : a ∉ lot) {w : Lot} (e : bareWay net lot a other = some w) : long net lot a other = (w.length : Int) :=
  bfs_long hw _ [[a]] [a] [a] [a] 1 w (bi_start ha) (fun x => by simp [lastD]; exact eq_comm) (fun x => Iff.rfl) e
end
end Mi
/-! ## M4 -/
namespace Mi
open Dy
/-! ### lots within lots -/
theorem within_iff {a b : Lot} : within a b = true ↔ ∀ x ∈ a, x ∈ b := by
  unfold within
  simp [List.all_eq_true]
theorem within_self (a : Lot) : within a a = true := within_iff.mpr fun x h => h
theorem within_trans {a b c : Lot} (h : within a b = true) (g : within b c = true) : within a c = true := within_iff.mpr fun x hx => within_iff.mp g x (within_iff.mp h x hx)
abbrev Srt (l : Lot) : Prop := l.Pairwise (· < ·)
theorem srt_ext {a b : Lot} (ha : Srt a) (hb : Srt b) (h : ∀ x, x ∈ a ↔ x ∈ b) : a = b :=
  ((List.perm_ext_iff_of_nodup (lt_nodup ha) (lt_nodup hb)).mpr h).eq_of_pairwise (fun u v _ _ h1 h2 => by omega) ha hb
theorem within_anti {a b : Lot} (ha : Srt a) (hb : Srt b) (h : within a b = true) (g : within b a = true) : a = b :=
  srt_ext ha hb fun x => ⟨within_iff.mp h x, within_iff.mp g x⟩
theorem lots_nd {ls : List Lot} (h : ls.Pairwise (· < ·)) : ls.Nodup := h.imp fun {a b} y => show a ≠ b from fun e => lt_irr a (by rw [← e] at y; exact y)
theorem lots_ext {xs ys : List Lot} (hx : xs.Pairwise (· < ·)) (hy : ys.Pairwise (· < ·)) (h : ∀ l, l ∈ xs ↔ l ∈ ys) : xs = ys :=
  ((List.perm_ext_iff_of_nodup (lots_nd hx) (lots_nd hy)).mpr h).eq_of_pairwise (fun a b _ _ h3 h4 => absurd (Std.lt_trans h3 h4) (lt_irr a)) hx hy
theorem ssort_lt (xs : List Lot) : (ssort xs).Pairwise (· < ·) := le_nodup_lt (sortT_pw _) (sortT_nodup (dd_nodup _))
/-- no other one holds it -/
def Top (ls : List Lot) (x : Lot) : Prop := x ∈ ls ∧ ∀ y ∈ ls, x ≠ y → within x y = false
theorem mem_lawGreatest {ls : List Lot} {x : Lot} : x ∈ lawGreatest ls ↔ Top ls x := by
  unfold lawGreatest Top
  rw [List.mem_filter, mem_ssort, Bool.not_eq_true', List.any_eq_false]
  refine and_congr_right fun _ => ?_
  constructor
  · intro h y hy hne
    have z := h y hy
    simp only [Bool.and_eq_true, Bool.not_eq_true', decide_eq_false_iff_not, not_and, Bool.not_eq_true] at z
    exact z hne
  · intro h y hy
    simp only [Bool.and_eq_true, Bool.not_eq_true', decide_eq_false_iff_not, not_and, Bool.not_eq_true]
    exact h y hy
theorem lawGreatest_lt (ls : List Lot) : (lawGreatest ls).Pairwise (· < ·) := (ssort_lt ls).filter _
theorem greatest_eq {ls : List Lot} (h : ls ≠ []) : greatest ls = lawGreatest ls := by
  have hs : ssort ls ≠ [] := fun e => by
    obtain ⟨x, hx⟩ := List.exists_mem_of_ne_nil _ h
    have := mem_ssort.mpr hx
    rw [e] at this
    exact List.not_mem_nil this
  unfold greatest
  rw [if_neg hs]
  unfold greatestIn lawGreatest
  congr 1
  funext l
  congr 1
  rw [Bool.eq_iff_iff,
          List.any_eq_true, List.any_eq_true]
  constructor
  · rintro ⟨y, hy, z⟩
    exact ⟨y, mem_ssort.mp hy, z⟩
  · rintro ⟨y, hy, z⟩
    exact ⟨y, mem_ssort.mpr hy, z⟩
theorem longer {x y : Lot} (hx : Srt x) (hy : Srt y) (h : within x y = true) (hne : x ≠ y) : x.length < y.length := by
  have l1 := List.Nodup.length_le_of_subset (lt_nodup hx) (l₂ := y) (within_iff.mp h)
  by_cases e : x.length = y.length
  · refine absurd (within_anti hx hy h (within_iff.mpr fun u hu => Classical.byContradiction fun z => ?_)) hne
    have nd2 : (u :: x).Nodup := List.nodup_cons.mpr ⟨z, lt_nodup hx⟩
    have := List.Nodup.length_le_of_subset nd2 (l₂ := y) fun v hv => by
      rcases List.mem_cons.mp
              hv with rfl | hv
      · exact hu
      · exact within_iff.mp h v hv
    rw [List.length_cons] at this
    omega
  · omega
theorem len_bound (ls : List Lot) : ∃ L, ∀ y ∈ ls, y.length ≤ L := by
  induction ls with
  | nil => exact ⟨0, fun y hy => (List.not_mem_nil hy).elim⟩
  | cons x ls ih =>
    obtain ⟨L, h⟩ := ih
    refine ⟨max x.length L, fun y hy => ?_⟩
    rcases List.mem_cons.mp
            hy with rfl | hy
    · exact Nat.le_max_left _ _
    · exact Nat.le_trans (h y hy) (Nat.le_max_right _ _)
theorem exists_top {ls : List Lot} (hs : ∀ l ∈ ls, Srt l) {x : Lot} (hx : x ∈ ls) : ∃ y, Top ls y ∧ within x y = true := by
  obtain ⟨L, hL⟩ := len_bound ls
  have key : ∀ n x, x ∈ ls → L - x.length ≤ n → ∃ y, Top ls y ∧ within x y = true := by
    intro n
    induction n with
    | zero =>
      intro x hx hn
      refine ⟨x, ⟨hx, fun y hy hne => ?_⟩, within_self x⟩
      rw [Bool.eq_false_iff]
      intro z
      have := longer (hs x hx) (hs y hy) z hne
      have := hL y hy
      omega
    | succ n ih =>
      intro x hx hn
      by_cases t : Top ls x
      · exact ⟨x, t, within_self x⟩
      · have ⟨y, hy, hne, hw⟩ : ∃ y ∈ ls, x ≠ y ∧ within x y = true := by
          refine Classical.byContradiction fun z => t ⟨hx, fun y hy hne => ?_⟩
          rw [Bool.eq_false_iff]
          exact fun w => z ⟨y, hy, hne, w⟩
        have := longer (hs x hx) (hs y hy) hw hne
        have := hL y hy
        obtain ⟨u, h1, h2⟩ := ih y hy (by omega)
        exact ⟨u, h1, within_trans hw h2⟩
  exact key _ x hx (Nat.le_refl _)
/-- the greatest are the same, if each is within one of the fewer -/
theorem top_same {A B : List Lot} (hB : ∀ l ∈ B, Srt l) (sub : ∀ l ∈ A, l ∈ B) (h : ∀ b ∈ B, ∃ a ∈ A, within b a = true) (x : Lot) : Top A x ↔ Top B x := by
  constructor
  · rintro ⟨h1, h2⟩
    refine ⟨sub x h1, fun y hy hne => ?_⟩
    rw [Bool.eq_false_iff]
    intro z
    obtain ⟨a, ha, hw⟩ := h y hy
    by_cases e : x = a
    · rw [← e] at hw
      exact hne (within_anti (hB x (sub x h1)) (hB y hy) z hw)
    · have := h2 a ha e
      rw [within_trans z hw] at this
      cases this
  · rintro ⟨h1, h2⟩
    obtain ⟨a, ha, hw⟩ := h x h1
    have e : x = a := Classical.byContradiction fun z => by
      have := h2 a (sub a ha) z
      rw [hw] at this
      cases this
    rw [← e] at ha
    exact ⟨ha, fun y hy hne => h2 y (sub y hy) hne⟩
theorem lawGreatest_same {A B : List Lot} (hB : ∀ l ∈ B, Srt l) (sub : ∀ l ∈ A, l ∈ B) (h : ∀ b ∈ B, ∃ a ∈ A, within b a = true) : lawGreatest A = lawGreatest B :=
  lots_ext (lawGreatest_lt A) (lawGreatest_lt B) fun l => by rw [mem_lawGreatest, mem_lawGreatest, top_same hB sub h]
theorem lawGreatest_ne {ls : List Lot} (hs : ∀ l ∈ ls, Srt l) (h : ls ≠ []) : lawGreatest ls ≠ [] := fun e => by
  obtain ⟨x, hx⟩ := List.exists_mem_of_ne_nil _ h
  obtain ⟨y, hy, _⟩ := exists_top hs hx
  have := mem_lawGreatest.mpr hy
  rw [e] at this
  exact List.not_mem_nil this
theorem fears_greatest {m : Int} {ls : List Lot} (hs : ∀ l ∈ ls, LotOk m l) (h : ls ≠ []) : FearsOk m (lawGreatest ls) :=
  ⟨lawGreatest_ne (fun l hl => (hs l hl).1) h, fun l hl => hs l (mem_lawGreatest.mp hl).1, lawGreatest_lt ls, fun a ha b hb hne => (mem_lawGreatest.mp ha).2 b (mem_lawGreatest.mp hb).1 hne⟩
theorem feared_iff {fs : List Lot} {l : Lot} : feared fs l = true ↔ ∃ f ∈ fs, within l f = true := by
  unfold feared
  rw [List.any_eq_true]
theorem feared_greatest {ls : List Lot} (hs : ∀ l ∈ ls, Srt l) (l : Lot) : feared (lawGreatest ls) l = feared ls l := by
  rw [Bool.eq_iff_iff, feared_iff, feared_iff]
  constructor
  · rintro ⟨f, hf, z⟩
    exact ⟨f, (mem_lawGreatest.mp hf).1, z⟩
  · rintro ⟨f, hf, z⟩
    obtain ⟨y, hy, w⟩ := exists_top hs hf
    exact ⟨y, mem_lawGreatest.mpr hy, within_trans z w⟩
theorem lawGreatest_map {ls : List Lot} (hs : ∀ l ∈ ls, Srt l) (T : Lot → Lot) (hT : ∀ l ∈ ls, Srt (T l)) (mono : ∀ a ∈ ls, ∀ b ∈ ls, within a b = true → within (T a) (T b) = true) : lawGreatest ((lawGreatest ls).map T) = lawGreatest (ls.map T) :=
  lawGreatest_same (fun l hl => by
    obtain ⟨y, hy, rfl⟩ := List.mem_map.mp hl
    exact hT y hy) (fun l hl => by
    obtain ⟨y, hy, rfl⟩ := List.mem_map.mp hl
    exact List.mem_map_of_mem (mem_lawGreatest.mp hy).1) fun b hb => by
    obtain ⟨y, hy, rfl⟩ := List.mem_map.mp hb
    obtain ⟨u, hu, w⟩ := exists_top hs hy
    exact ⟨_, List.mem_map_of_mem (mem_lawGreatest.mpr hu), mono y hy u hu.1 w⟩
/-! ### what is feared -/
section
variable {m : Int} {fs : List Lot} {a b : Int}
theorem mem_lawFeared (h0 : 0 ≤ m) {l : Lot} : l ∈ lawFeared m fs ↔ LotOk m l ∧ ∃ f ∈ fs, within l f = true := by
  unfold lawFeared
  rw [List.mem_filter, mem_lots h0, List.any_eq_true]
theorem lawFeared_lt : (lawFeared m fs).Pairwise (· < ·) := (lots_lt m).filter _
def less2 (a b : Int) (f : Lot) : Lot := f.filter fun h => !decide (h = a) && !decide (h = b)
theorem mem_less2 {f : Lot} {x : Int} : x ∈ less2 a b f ↔ x ∈ f ∧ x ≠ a ∧ x ≠ b := by
  unfold less2
  rw [List.mem_filter]
  simp
theorem less2_ok {f : Lot} (h : LotOk m f) : LotOk m (less2 a b f) := ⟨h.1.filter _, fun x hx => h.2 x (mem_less2.mp hx).1⟩
theorem between_eq (h0 : 0 ≤ m) (hf : FearsOk m fs) : between fs a b = lawBetween (lawFeared m fs) a b := by
  unfold between
  rw [greatest_eq (by simpa using hf.1)]
  unfold lawBetween
  have hm : ∀ {l : Lot}, l ∈ (lawFeared m fs).filter (fun l => !decide (a ∈ l) && !decide (b ∈ l)) ↔ (LotOk m l ∧ ∃ f ∈ fs, within l f = true) ∧ a ∉ l ∧ b ∉ l := by
    intro l
    rw [List.mem_filter, mem_lawFeared h0]
    simp
  refine lawGreatest_same (fun l hl => (hm.mp hl).1.1.1) (fun l hl => ?_) (fun l hl => ?_)
  · obtain ⟨f, hf2, rfl⟩ := List.mem_map.mp hl
    exact hm.mpr ⟨⟨less2_ok (hf.2.1 f hf2), f, hf2, within_iff.mpr fun x hx => (mem_less2.mp hx).1⟩, fun z => (mem_less2.mp z).2.1 rfl, fun z => (mem_less2.mp z).2.2 rfl⟩
  · obtain ⟨⟨h1, f, hf2, hw⟩, h2, h3⟩ := hm.mp hl
    exact ⟨_, List.mem_map_of_mem hf2, within_iff.mpr fun x hx => mem_less2.mpr ⟨within_iff.mp hw x hx, fun z => h2 (z ▸ hx), fun z => h3 (z ▸ hx)⟩⟩
theorem mem_lawBetween (h0 : 0 ≤ m) {l : Lot} (h : l ∈ lawBetween (lawFeared m fs) a b) : LotOk m l ∧ a ∉ l ∧ b ∉ l ∧ ∃ f ∈ fs, within l f = true := by
  unfold lawBetween at h
  have z := (mem_lawGreatest.mp h).1
  rw [List.mem_filter, mem_lawFeared h0] at z
  simp only [Bool.and_eq_true, Bool.not_eq_true', decide_eq_false_iff_not] at z
  exact ⟨z.1.1, z.2.1, z.2.2, z.1.2⟩
theorem fearedLots_eq : fearedLots m fs = lawFeared m fs := rfl
/-! ### feared too, calmed -/
theorem mem_dividing {net : List Wire} (h0 : 0 ≤ m) {l : Lot} : l ∈ dividing m net fs ↔ LotOk m l ∧ feared fs l = true ∧ 1 < ((sides m net l).length : Int) := by
  unfold dividing fearedLots
  rw [List.mem_filter, List.mem_filter, mem_lots h0, decide_eq_true_eq, and_assoc]
theorem dividing_lt {net : List Wire} : (dividing m net fs).Pairwise (· < ·) := ((lots_lt m).filter _).filter _
theorem dividing_eq {net : List Wire} (hw : ∀ p ∈ net, WireOk m p) : dividing m net fs = divided m net (lawFeared m fs) := by
  rw [divided_eq hw]
  rfl
theorem mem_divided {net : List Wire} (hw : ∀ p ∈ net, WireOk m p) {fe : List Lot} {l : Lot} : l ∈ divided m net fe ↔ l ∈ fe ∧ 1 < ((sides m net l).length : Int) := by
  rw [divided_eq hw, List.mem_filter, decide_eq_true_eq]
theorem mem_parts (h0 : 0 ≤ m) {lot l : Lot} : l ∈ (lots m).filter (fun p => within p lot) ↔ LotOk m l ∧ within l lot = true := by
  rw [List.mem_filter, mem_lots h0]
theorem more_eq (h0 : 0 ≤ m) (hf : FearsOk m fs) {net : List Wire} (hw : ∀ p ∈ net, WireOk m p) {lot : Lot} (hl : LotOk m lot) : dividing m net (greatest (fs ++ [lot])) = ssort (divided m net (lawFeared m fs) ++ divided m net ((lots m).filter fun p => within p lot)) := by
  rw [greatest_eq (by simp)]
  refine lots_ext dividing_lt (ssort_lt _) fun l => ?_
  rw [mem_dividing h0, feared_greatest (fun f hf2 => ?_), mem_ssort, List.mem_append, mem_divided hw, mem_divided hw, mem_parts h0, mem_lawFeared h0, feared_iff]
  · constructor
    · rintro ⟨h1, ⟨f, h2, h3⟩, h4⟩
      rcases List.mem_append.mp h2 with z | z
      · exact .inl ⟨⟨h1, f, z, h3⟩, h4⟩
      · rw [List.mem_singleton.mp z] at h3
        exact .inr ⟨⟨h1, h3⟩, h4⟩
    · rintro (⟨⟨h1, f, h2, h3⟩, h4⟩ | ⟨⟨h1, h3⟩, h4⟩)
      · exact ⟨h1, ⟨f, List.mem_append_left _ h2, h3⟩, h4⟩
      · exact ⟨h1, ⟨lot, by simp, h3⟩, h4⟩
  · rcases List.mem_append.mp hf2 with z | z
    · exact (hf.2.1 f z).1
    · rw
            [List.mem_singleton.mp z]
      exact hl.1
def blindPart (lot f : Lot) : List Lot := if within lot f = true then lot.map (less f) else [f]
theorem blindRows_flat (fs : List Lot) (lot : Lot) : blindRows fs lot = fs.flatMap (blindPart lot) := by
  have key : ∀ (fs : List Lot) (acc : List Lot), fs.foldl (fun rows f => if within lot f then rows ++ lot.map (less f) else rows ++ [f]) acc = acc ++ fs.flatMap (blindPart lot) := by
    intro fs
    induction fs with
    | nil => simp
    | cons f fs ih =>
      intro acc
      rw [List.foldl_cons, ih, List.flatMap_cons]
      unfold blindPart
      split <;> simp
  unfold blindRows
  rw [key, List.nil_append]
theorem mem_less {f : Lot} {h x : Int} : x ∈ less f h ↔ x ∈ f ∧ x ≠ h := by
  unfold less
  rw [List.mem_filter]
  simp
theorem mem_blindRows {lot r : Lot} : r ∈ blindRows fs lot ↔ ∃ f ∈ fs, (within lot f = true ∧ ∃ h ∈ lot, r = less f h) ∨ (within lot f = false ∧ r = f) := by
  rw [blindRows_flat, List.mem_flatMap]
  constructor
  · rintro ⟨f, hf, hr⟩
    refine ⟨f, hf, ?_⟩
    unfold blindPart at hr
    cases c : within lot f with
    | true =>
      rw [if_pos c] at hr
      obtain ⟨h, hh, e⟩ := List.mem_map.mp hr
      exact .inl ⟨rfl, h, hh, e.symm⟩
    | false =>
      rw [if_neg (by simp [c])] at hr
      exact .inr ⟨rfl, List.mem_singleton.mp hr⟩
  · rintro ⟨f, hf, ⟨c, h, hh, e⟩ | ⟨c, e⟩⟩
    · refine ⟨f, hf, ?_⟩
      unfold blindPart
      rw [if_pos c, e]
      exact List.mem_map_of_mem hh
    · refine ⟨f, hf, ?_⟩
      unfold blindPart
      rw [if_neg (by simp [c]), e]
      simp
theorem blind_ne {lot : Lot} (hf : fs ≠ []) (hl : lot ≠ []) : blindRows fs lot ≠ [] := fun e => by
  obtain ⟨f, h1⟩ := List.exists_mem_of_ne_nil _ hf
  obtain ⟨h, h2⟩ := List.exists_mem_of_ne_nil _ hl
  cases c : within lot f with
  | true =>
    have : less f h ∈ blindRows fs lot := mem_blindRows.mpr ⟨f, h1, .inl ⟨c, h, h2, rfl⟩⟩
    rw [e] at this
    exact List.not_mem_nil this
  | false =>
    have : f ∈ blindRows fs lot := mem_blindRows.mpr ⟨f, h1, .inr ⟨c, rfl⟩⟩
    rw [e] at this
    exact List.not_mem_nil this
theorem blindRows_ok {lot : Lot} (hf : ∀ f ∈ fs, LotOk m f) : ∀ r ∈ blindRows fs lot, LotOk m r := fun r hr => by
  obtain ⟨f, h1, ⟨_, h, _, rfl⟩ | ⟨_, rfl⟩⟩ := mem_blindRows.mp hr
  · exact ⟨(hf f h1).1.filter _, fun x hx => (hf f h1).2 x (mem_less.mp hx).1⟩
  · exact hf r h1
theorem feared_blind {lot l : Lot} (hf : ∀ f ∈ fs, Srt f) : feared (blindRows fs lot) l = (feared fs l && !within lot l) := by
  rw [Bool.eq_iff_iff, Bool.and_eq_true, feared_iff, feared_iff, Bool.not_eq_true']
  constructor
  · rintro ⟨r, hr, hw⟩
    obtain ⟨f, h1, ⟨c, h, h2, rfl⟩ | ⟨c, rfl⟩⟩ := mem_blindRows.mp hr
    · refine ⟨⟨f, h1, within_iff.mpr fun x hx => (mem_less.mp (within_iff.mp hw x hx)).1⟩, ?_⟩
      rw [Bool.eq_false_iff]
      intro z
      exact (mem_less.mp (within_iff.mp hw h (within_iff.mp z h h2))).2 rfl
    · refine ⟨⟨r, h1, hw⟩, ?_⟩
      rw [Bool.eq_false_iff]
      intro z
      rw [within_trans z hw] at c
      cases c
  · rintro ⟨⟨f, h1, hw⟩, hn⟩
    cases c : within lot f with
    | true =>
      have ⟨h, h2, h3⟩ : ∃ h ∈ lot, h ∉ l := by
        refine Classical.byContradiction fun z => ?_
        rw [Bool.eq_false_iff] at hn
        exact hn (within_iff.mpr fun x hx => Classical.byContradiction fun y => z ⟨x, hx, y⟩)
      exact ⟨less f h, mem_blindRows.mpr ⟨f, h1, .inl ⟨c, h, h2, rfl⟩⟩, within_iff.mpr fun x hx => mem_less.mpr ⟨within_iff.mp hw x hx, fun e => h3 (e ▸ hx)⟩⟩
    | false => exact ⟨f, mem_blindRows.mpr ⟨f, h1, .inr ⟨c, rfl⟩⟩, hw⟩
theorem blind_eq {lot : Lot} (hf : FearsOk m fs) (hl : lot ≠ []) : blind fs lot = lawGreatest (blindRows fs lot) := greatest_eq (blind_ne hf.1 hl)
theorem less_eq (h0 : 0 ≤ m) (hf : FearsOk m fs) {net : List Wire} (hw : ∀ p ∈ net, WireOk m p) {lot : Lot} (hl : lot ≠ []) : dividing m net (blind fs lot) = (divided m net (lawFeared m fs)).filter fun p => !within lot p := by
  rw [blind_eq hf hl]
  refine lots_ext dividing_lt ?_ fun l => ?_
  · rw [divided_eq hw]
    exact (lawFeared_lt.filter _).filter _
  · rw [mem_dividing h0, feared_greatest (fun r hr => (blindRows_ok hf.2.1 r hr).1), feared_blind (fun f h => (hf.2.1 f h).1), List.mem_filter, mem_divided hw, mem_lawFeared h0, Bool.and_eq_true, feared_iff]
    constructor
    · rintro ⟨h1, ⟨h2, h3⟩, h4⟩
      exact ⟨⟨⟨h1, h2⟩, h4⟩, h3⟩
    · rintro ⟨⟨⟨h1, h2⟩, h4⟩, h3⟩
      exact ⟨h1, ⟨h2, h3⟩, h4⟩
end
end Mi
/-! ## M5 -/
namespace Mi
open Dy
/-! ### houses left out, lots counted anew -/
def rho (h x : Int) : Int := x - (if decide (h < x) = true then 1 else 0)
def sig (a b h : Int) : Int := h - (if decide (a < h) = true then 1 else 0) - (if decide (b < h) = true then 1 else 0)
theorem rho_lt {h x y : Int} (hx : x ≠ h) (hy : y ≠ h) (l : x < y) : rho h x < rho h y := by
  unfold rho
  simp only [decide_eq_true_eq]
  split <;> split <;> omega
theorem mem_leftRow {h z : Int} {f : Lot} : z ∈ leftRow h f ↔ ∃ x ∈ f, x ≠ h ∧ z = rho h x := by
  unfold leftRow
  rw [List.mem_map]
  constructor
  · rintro ⟨x, hx, e⟩
    rw [List.mem_filter] at hx
    exact ⟨x, hx.1, by simpa using hx.2, e.symm⟩
  · rintro ⟨x, hx, hn, e⟩
    exact ⟨x, List.mem_filter.mpr ⟨hx, by simpa using hn⟩, e.symm⟩
theorem leftRow_srt {h : Int} {f : Lot} (hf : Srt f) : Srt (leftRow h f) := by
  show ((f.filter fun x => !decide (x = h)).map (rho h)).Pairwise (· < ·)
  rw [List.pairwise_map]
  refine (hf.filter _).imp_of_mem fun {a b} ha hb l => ?_
  exact rho_lt (by simpa using (List.mem_filter.mp ha).2) (by simpa using (List.mem_filter.mp hb).2) l
theorem leftRow_ok {m h : Int} {f : Lot} (hh : 0 ≤ h ∧ h < m) (hf : LotOk m f) : LotOk (m - 1) (leftRow h f) := ⟨leftRow_srt hf.1, fun z hz => by
  obtain ⟨x, hx, hn, rfl⟩ := mem_leftRow.mp hz
  have := hf.2 x hx
  unfold rho
  simp only [decide_eq_true_eq]
  split <;> omega⟩
theorem leftRow_mono {h : Int} {f g : Lot} (w : within f g = true) : within (leftRow h f) (leftRow h g) = true := within_iff.mpr fun z hz => by
  obtain ⟨x, hx, hn, e⟩ := mem_leftRow.mp hz
  exact mem_leftRow.mpr ⟨x, within_iff.mp w x hx, hn, e⟩
theorem ite_or (p : Prop) [Decidable p] : (p ∧ (if decide p = true then (1 : Int) else 0) = 1) ∨ (¬ p ∧ (if decide p = true then (1 : Int) else 0) = 0) := by
  by_cases h : p
  · exact .inl ⟨h, by rw [decide_eq_true h]; rfl⟩
  · exact .inr ⟨h, by rw [decide_eq_false h]; rfl⟩
theorem sig_inj {a b x y : Int} (hne : a ≠ b) (hx : x ≠ a ∧ x ≠ b) (hy : y ≠ a ∧ y ≠ b) (e : sig a b x = sig a b y) : x = y := by
  unfold sig at e
  have h1 := ite_or (a < x)
  have h2 := ite_or (b < x)
  have h3 := ite_or (a < y)
  have h4 := ite_or (b < y)
  generalize (if decide (a < x) = true then (1 : Int) else 0) = p1 at h1 e
  generalize (if decide (b < x) = true then (1 : Int) else 0) = p2 at h2 e
  generalize (if decide (a < y) = true then (1 : Int) else 0) = p3 at h3 e
  generalize (if decide (b < y) = true then (1 : Int) else 0) = p4 at h4 e
  rcases h1 with h1 | h1 <;> rcases h2 with h2 | h2 <;> rcases h3 with h3 | h3 <;> rcases h4 with h4 | h4 <;> omega
/-- no house of it is one of both -/
def Off (a b : Int) (l : Lot) : Prop := ∀ x ∈ l, x ≠ a ∧ x ≠ b
theorem less2_off (a b : Int) (f : Lot) : Off a b (less2 a b f) := fun x hx => (mem_less2.mp hx).2
theorem sig_within {a b : Int} {u v : Lot} (hne : a ≠ b) (hu : Off a b u) (hv : Off a b v) : within (u.map (sig a b)) (v.map (sig a b)) = within u v := by
  rw [Bool.eq_iff_iff, within_iff, within_iff]
  constructor
  · intro h x hx
    obtain ⟨y, hy, e⟩ := List.mem_map.mp (h _ (List.mem_map_of_mem hx))
    rwa [← sig_inj hne (hv y hy) (hu x hx) e]
  · intro h z hz
    obtain ⟨x, hx, rfl⟩ := List.mem_map.mp hz
    exact List.mem_map_of_mem (h x hx)
theorem map_sig_inj {a b : Int} (hne : a ≠ b) : ∀ {u v : Lot}, Off a b u → Off a b v → u.map (sig a b) = v.map (sig a b) → u = v
  | [], [], _, _, _ => rfl
  | [], _ :: _, _, _, e => by cases e
  | _ :: _, [], _, _, e => by cases e
  | x :: u, y :: v, hu, hv, e => by
    rw [List.map_cons,
            List.map_cons] at e
    injection e with e1 e2
    rw [sig_inj hne (hu x (List.mem_cons_self ..)) (hv y (List.mem_cons_self ..)) e1, map_sig_inj hne (fun z hz => hu z (List.mem_cons_of_mem _ hz)) (fun z hz => hv z (List.mem_cons_of_mem _ hz)) e2]
theorem two_left {a b : Int} (hne : a ≠ b) : ∀ f : Lot, leftRow (min a b) (leftRow (max a b) f) = (less2 a b f).map (sig a b)
  | [] => rfl
  | x :: f => by
    have ih := two_left hne f
    unfold leftRow less2 at ih ⊢
    have lh : min a b < max a b := by omega
    by_cases c1 : x = max a b
    · have c3 : x = a ∨ x = b := by omega
      have q : (!decide (x = a) && !decide (x = b)) = false := by
        rcases c3 with z | z <;> simp [z]
      rw [List.filter_cons, if_neg (by simp [c1]), List.filter_cons, if_neg (by rw [q]; decide)]
      exact ih
    · have r1 : (if decide (max a b < x) = true then (1 : Int) else 0) = if max a b < x then 1 else 0 := by simp only [decide_eq_true_eq]
      rw [List.filter_cons, if_pos (by simpa using c1), List.map_cons]
      by_cases c2 : x = min a b
      · have c3 : x = a ∨ x = b := by omega
        have q : (!decide (x = a) && !decide (x = b)) = false := by
          rcases c3 with z | z <;> simp [z]
        have e1 : x - (if decide (max a b < x) = true then (1 : Int) else 0) = min a b := by
          rw [r1, if_neg (by omega)]
          omega
        rw [List.filter_cons, if_neg (by rw [e1]; simp), List.filter_cons, if_neg (by rw [q]; decide)]
        exact ih
      · have c3 : x ≠ a ∧ x ≠ b := by omega
        have e1 : x - (if decide (max a b < x) = true then (1 : Int) else 0) ≠ min a b := by
          rw [r1]
          split <;> omega
        rw [List.filter_cons_of_pos (by rw [decide_eq_false e1]; rfl), List.map_cons, List.filter_cons_of_pos (by simp [c3.1, c3.2]), List.map_cons, ih]
        congr 1
        unfold sig
        have h1 := ite_or (a < x)
        have h2 := ite_or (b < x)
        have h3 := ite_or (max a b < x)
        generalize (if decide (a < x) = true then (1 : Int) else 0) = p1 at h1
        generalize (if decide (b < x) = true then (1 : Int) else 0) = p2 at h2
        generalize (if decide (max a b < x) = true then (1 : Int) else 0) = p3 at h3
        have h4 := ite_or (min a b < x - p3)
        generalize (if decide (min a b < x - p3) = true then (1 : Int) else 0) = p4 at h4
        omega
theorem anew_eq (ls : List Lot) (a b : Int) : anew ls a b = ls.map fun l => l.map (sig a b) := rfl
theorem nodup_map {α β : Type} {xs : List α} {f : α → β} (h : xs.Nodup) (inj : ∀ x ∈ xs, ∀ y ∈ xs, f x = f y → x = y) : (xs.map f).Nodup := by
  induction xs with
  | nil => exact List.nodup_nil
  | cons x xs ih =>
    obtain ⟨h1, h2⟩ :=
            List.nodup_cons.mp h
    rw [List.map_cons]
    refine List.nodup_cons.mpr ⟨fun z => ?_, ih h2 fun u hu v hv => inj u (List.mem_cons_of_mem _ hu) v (List.mem_cons_of_mem _ hv)⟩
    obtain ⟨y, hy, e⟩ := List.mem_map.mp z
    rw [inj y (List.mem_cons_of_mem _ hy) x (List.mem_cons_self ..) e] at hy
    exact h1 hy
section
variable {m : Int} {fs : List Lot} {a b : Int}
theorem left_eq (h0 : 0 ≤ m) (hf : FearsOk m fs) (hne : a ≠ b) : lawLeft m fs a b = sortT (anew (lawBetween (lawFeared m fs) a b) a b) := by
  have hs : ∀ l ∈ fs, Srt l := fun l hl => (hf.2.1 l hl).1
  have n1 : fs.map (leftRow (max a b)) ≠ [] := by simpa using hf.1
  have s1 : ∀ l ∈ fs.map (leftRow (max a b)), Srt l := fun l hl => by
    obtain ⟨f, h1, rfl⟩ := List.mem_map.mp hl
    exact leftRow_srt (hs f h1)
  show greatest ((greatest (fs.map (leftRow (max a b)))).map (leftRow (min a b))) = _
  rw [greatest_eq n1, greatest_eq (by simpa using lawGreatest_ne s1 n1), lawGreatest_map s1 _ (fun l hl => leftRow_srt (s1 l hl)) fun u _ v _ w => leftRow_mono w]
  have e1 : (fs.map (leftRow (max a b))).map (leftRow (min a b)) = (fs.map (less2 a b)).map fun l => l.map (sig a b) := by
    rw [List.map_map,
            List.map_map]
    refine List.map_congr_left fun f _ => ?_
    exact two_left hne f
  rw [e1, ← between_eq h0 hf]
  have n2 : fs.map (less2 a b) ≠ [] := by simpa using hf.1
  show _ = sortT (anew (greatest (fs.map (less2 a b))) a b)
  rw [greatest_eq n2, anew_eq]
  have off : ∀ l ∈ fs.map (less2 a b), Off a b l := fun l hl => by
    obtain ⟨f, _, rfl⟩ := List.mem_map.mp hl
    exact less2_off a b f
  refine lots_ext (lawGreatest_lt _) (le_nodup_lt (sortT_pw _) (sortT_nodup (nodup_map (lots_nd (lawGreatest_lt _)) fun u hu v hv e => map_sig_inj hne (off u (mem_lawGreatest.mp hu).1) (off v (mem_lawGreatest.mp hv).1) e))) fun z => ?_
  rw [mem_lawGreatest, mem_sortT, List.mem_map]
  constructor
  · rintro ⟨h1, h2⟩
    obtain ⟨u, hu, rfl⟩ := List.mem_map.mp h1
    refine ⟨u, mem_lawGreatest.mpr ⟨hu, fun v hv hn => ?_⟩, rfl⟩
    have := h2 _ (List.mem_map_of_mem hv) fun e => hn (map_sig_inj hne (off u hu) (off v hv) e)
    rwa [sig_within hne (off u hu) (off v hv)] at this
  · rintro ⟨u, hu, rfl⟩
    obtain ⟨h1, h2⟩ := mem_lawGreatest.mp hu
    refine ⟨List.mem_map_of_mem h1, fun z hz hn => ?_⟩
    obtain ⟨v, hv, rfl⟩ := List.mem_map.mp hz
    rw [sig_within hne (off u h1) (off v hv)]
    exact h2 v hv fun e => hn (by rw [e])
end
/-! ### what can be sent -/
section
variable {m : Int} {net : List Wire} {fs : List Lot} {a b : Int}
theorem canSend_iff (h0 : 0 ≤ m) (hf : FearsOk m fs) (hw : ∀ p ∈ net, WireOk m p) : canSend net fs a b = true ↔ ∀ l ∈ lawBetween (lawFeared m fs) a b, Conn net l a b := by
  unfold canSend
  rw [between_eq h0 hf, List.all_eq_true]
  constructor
  · intro h l hl
    exact (bareWay_some hw (mem_lawBetween h0 hl).2.1).mp (h l hl)
  · intro h l hl
    exact (bareWay_some hw (mem_lawBetween h0 hl).2.1).mpr (h l hl)
theorem send_pair (h0 : 0 ≤ m) (hf : FearsOk m fs) (hw : ∀ p ∈ net, WireOk m p) : canSend net fs a b = decide (((lawBetween (lawFeared m fs) a b).filter fun l => !decide (b ∈ joined net l a)) = []) := by
  rw [Bool.eq_iff_iff, canSend_iff h0 hf hw, decide_eq_true_eq, List.filter_eq_nil_iff]
  refine forall_congr' fun l => forall_congr' fun hl => ?_
  rw [← mem_joined (net := net) (mem_lawBetween h0 hl).2.1]
  simp
theorem jointOf_snoc {ls : List Lot} {l : Lot} : jointOf m net a b (ls ++ [l]) = jointOf m net a b ls ++ (sides m net l).filter fun s => decide (a ∈ s) && decide (b ∈ s) := by
  unfold jointOf
  rw [List.foldl_append]
  rfl
theorem joint_len (hw : ∀ p ∈ net, WireOk m p) {ls : List Lot} (ho : ∀ l ∈ ls, a ∈ others m l ∧ b ∈ others m l) : (jointOf m net a b ls).length ≤ ls.length ∧ ((jointOf m net a b ls).length = ls.length ↔ ∀ l ∈ ls, Conn net l a b) := by
  have key : ∀ n (ls : List Lot), ls.length = n → (∀ l ∈ ls, a ∈ others m l ∧ b ∈ others m l) → (jointOf m net a b ls).length ≤ ls.length ∧ ((jointOf m net a b ls).length = ls.length ↔ ∀ l ∈ ls, Conn net l a b) := by
    intro n
    induction n with
    | zero =>
      intro ls hn _
      have e := List.length_eq_zero_iff.mp hn
      subst e
      exact ⟨Nat.le_refl _, ⟨fun _ l hl => (List.not_mem_nil hl).elim, fun _ => rfl⟩⟩
    | succ n ih =>
      intro ls hn ho
      have hne : ls ≠ [] := fun e => by
        rw [e] at hn
        cases hn
      have e :=
              List.dropLast_concat_getLast hne
      generalize ls.getLast hne = l at e
      generalize ls.dropLast = r at e
      subst e
      rw [List.length_append, List.length_singleton] at hn
      obtain ⟨i1, i2⟩ := ih r (by omega) fun l hl => ho l (List.mem_append_left _ hl)
      have ho2 := ho l (by simp)
      obtain ⟨b1, b2⟩ := both_len hw ho2.1 ho2.2
      rw [jointOf_snoc, List.length_append, List.length_append, List.length_singleton]
      refine ⟨by omega, ?_⟩
      constructor
      · intro h x hx
        rcases List.mem_append.mp hx with z | z
        · exact i2.mp (by omega) x z
        · rw
                [List.mem_singleton.mp z]
          exact b2.mp (by omega)
      · intro h
        have h1 := i2.mpr fun x hx => h x (List.mem_append_left _ hx)
        have h2 := b2.mpr (h l (by simp))
        omega
  exact key _ ls rfl ho
end
/-! ### how many there are -/
theorem lots_small {m : Int} {ls : List Lot} (h0 : 0 ≤ m) (h6 : m ≤ 6) (nd : ls.Nodup) (h : ∀ l ∈ ls, LotOk m l) : ls.length ≤ 64 :=
  Nat.le_trans (List.Nodup.length_le_of_subset nd (l₂ := lots m) fun l hl => (mem_lots h0).mpr (h l hl)) (lots_len h6)
theorem few_two {m : Int} {ls : List Lot} {u v : Lot} (h0 : 0 ≤ m) (h6 : m ≤ 6) (h : ∀ l ∈ ls, LotOk m l ∧ l ≠ u ∧ l ≠ v) (hu : LotOk m u) (hv : LotOk m v) (huv : u ≠ v) : Few ls := by
  refine ⟨dd ls, ?_, fun l hl => mem_dd.mpr hl⟩
  have nd : (u :: v :: dd ls).Nodup := by
    refine List.nodup_cons.mpr ⟨fun z => ?_, List.nodup_cons.mpr ⟨fun z => (h v (mem_dd.mp z)).2.2 rfl, dd_nodup ls⟩⟩
    rcases List.mem_cons.mp
            z with z | z
    · exact huv z
    · exact (h u (mem_dd.mp z)).2.1 rfl
  have := lots_small h0 h6 nd fun l hl => by
    rcases List.mem_cons.mp hl with rfl | hl
    · exact hu
    · rcases List.mem_cons.mp hl with rfl | hl
      · exact hv
      · exact (h l (mem_dd.mp hl)).1
  simp only
          [List.length_cons] at this
  omega
theorem lot_one {m a : Int} (h : 0 ≤ a ∧ a < m) : LotOk m [a] := ⟨by simp, fun x hx => by rw [List.mem_singleton.mp hx]; exact h⟩
theorem greatest_len (ls : List Lot) (h : ls ≠ []) : (greatest ls).length ≤ ls.length := by
  rw [greatest_eq h]
  exact Nat.le_trans (List.length_filter_le _ _) (ssort_len ls)
theorem big_lots : ∀ lot ∈ lotsN 6, 4 ≤ lot.length → ((lotsN 6).filter fun f => within lot f).length * lot.length ≤ 24 := by decide +kernel
theorem flat_len (lot : Lot) : ∀ fs : List Lot, (fs.flatMap (blindPart lot)).length ≤ fs.length * (max 1 lot.length) ∧ (fs.flatMap (blindPart lot)).length ≤ fs.length + (fs.filter fun f => within lot f).length * lot.length
  | [] => ⟨Nat.zero_le _, Nat.zero_le _⟩
  | f :: fs => by
    obtain ⟨i1, i2⟩ := flat_len lot fs
    rw [List.flatMap_cons, List.length_append, List.length_cons, Nat.succ_mul]
    have e : (blindPart lot f).length = if within lot f = true then lot.length else 1 := by
      unfold blindPart
      split <;> simp
    rw [e, List.filter_cons]
    split
    · rw [List.length_cons, Nat.succ_mul]
      omega
    · omega
theorem blind_most {m : Int} {fs : List Lot} {lot : Lot} (h6 : m ≤ 6) (hf : ∀ f ∈ fs, LotOk m f) (nd : fs.Nodup) (hl : LotOk m lot) (h20 : fs.length ≤ 20) : (blindRows fs lot).length ≤ 62 := by
  rw [blindRows_flat]
  obtain ⟨i1, i2⟩ := flat_len lot fs
  by_cases c : lot.length ≤ 3
  · have : fs.length * max 1 lot.length ≤ 20 * 3 := Nat.mul_le_mul h20 (by omega)
    omega
  · have m6 : ∀ {l : Lot}, LotOk m l → l ∈ lotsN 6 := fun h => mem_lotsN.mpr (h.up (by omega))
    have b1 := big_lots lot (m6 hl) (by omega)
    have b2 : (fs.filter fun f => within lot f).length ≤ ((lotsN 6).filter fun f => within lot f).length := List.Nodup.length_le_of_subset (nd.filter _) fun f hf2 => by
      obtain ⟨h1, h2⟩ := List.mem_filter.mp hf2
      exact List.mem_filter.mpr ⟨m6 (hf f h1), h2⟩
    have b3 := Nat.mul_le_mul_right lot.length b2
    omega
end Mi
/-! ## M6 -/
namespace Dy
open Mi
/-- what the law draws -/
structure LawIn (m : Int) (fs : List Lot) (net : List Wire) : Prop where
  m2 : 2 ≤ m
  m6 : m ≤ 6
  fears : FearsOk m fs
  h20 : fs.length ≤ 20
  net : NetOk m net
section
variable {m : Int} {fs : List Lot} {net : List Wire} {a b : Int} {lot : Lot}
theorem LawIn.many (L : LawIn m fs net) : ManyOk m := ⟨by have := L.m2; omega, L.m6⟩
theorem LawIn.h0 (L : LawIn m fs net) : 0 ≤ m := by have := L.m2; omega
theorem LawIn.net6 (L : LawIn m fs net) : Net6 m net := ⟨L.many, L.net⟩
theorem LawIn.fear6 (L : LawIn m fs net) : Fear6 m fs := ⟨L.many, L.fears, by have := L.h20; omega⟩
theorem LawIn.hw (L : LawIn m fs net) : ∀ p ∈ net, WireOk m p := L.net.1
theorem fe_len (L : LawIn m fs net) : (lawFeared m fs).length ≤ 64 := lots_small L.h0 L.m6 (lots_nd lawFeared_lt) fun l hl => ((mem_lawFeared L.h0).mp hl).1
theorem fe_few (L : LawIn m fs net) (h : PairOk m a b) : Few ((lawFeared m fs).filter fun l => !decide (a ∈ l) && !decide (b ∈ l)) := by
  obtain ⟨h1, h2, h3, h4, h5⟩ := h
  refine few_two L.h0 L.m6 (u := [a]) (v := [b]) (fun l hl => ?_) (lot_one ⟨h1, h2⟩) (lot_one ⟨h3, h4⟩) (fun e => h5 (by simpa using e.symm))
  obtain ⟨q1, q2⟩ := List.mem_filter.mp hl
  simp only [Bool.and_eq_true, Bool.not_eq_true', decide_eq_false_iff_not] at q2
  exact ⟨((mem_lawFeared L.h0).mp q1).1, fun e => q2.1 (by rw [e]; simp), fun e => q2.2 (by rw [e]; simp)⟩
theorem small_lots {ls : List Lot} (h0 : 0 ≤ m) (h6 : m ≤ 6) (nd : ls.Nodup) (h : ∀ l ∈ ls, LotOk m l) : Small ls := by
  have hl : ∀ l ∈ ls, l.length ≤ 10 := fun l hl => by
    have z := List.Nodup.length_le_of_subset (lt_nodup (h l hl).1) (l₂ := rng 0 6) fun x hx => mem_rng.mpr (by have := (h l hl).2 x hx; omega)
    rw [rng_len] at z
    omega
  exact ⟨by have := lots_small h0 h6 nd h; omega, fun l hx => ⟨hl l hx, fun x hz => by have := (h l hx).2 x hz; omega⟩⟩
theorem lawBetween_lt (fe : List Lot) : (lawBetween fe a b).Pairwise (· < ·) := lawGreatest_lt _
theorem pair_law (L : LawIn m fs net) (h : PairOk m a b) : PairLaw m net fs (lawFeared m fs) a b where
  net6 := L.net6
  fears := L.fear6
  pair := h
  few := ⟨fe_len L, fe_few L h⟩
  same := between_eq L.h0 L.fears
  small := by
    rw [between_eq L.h0 L.fears]
    exact small_lots L.h0 L.m6 (lots_nd (lawBetween_lt _)) fun l hl => (mem_lawBetween L.h0 hl).1
  send := send_pair L.h0 L.fears L.hw
theorem ones_ok (L : LawIn m fs net) : GroundOk (List.replicate m.toNat 1, fs) := by
  have h2 := L.m2
  have h6 := L.m6
  have el : (List.replicate m.toNat (1 : Int)).length = m.toNat := List.length_replicate
  refine ⟨⟨fun e => ?_, fun x hx => by rw [(List.mem_replicate.mp hx).2]; omega⟩, by rw [el]; omega, ?_⟩
  · have := congrArg List.length e
    rw [el] at this
    simp only [List.length_nil] at this
    omega
  · rw [el, show ((m.toNat : Nat) : Int) = m by omega]
    exact L.fears
theorem cut_ones {n : Nat} {h : Int} (hh : 0 ≤ h ∧ h < n) : (cutX (List.replicate n (1 : Int)) none (some h) ++ cutX (List.replicate n (1 : Int)) (some (h + 1)) none).length = n - 1 ∧ ∀ x ∈ cutX (List.replicate n (1 : Int)) none (some h) ++ cutX (List.replicate n (1 : Int)) (some (h + 1)) none, x = 1 := by
  have e1 : HT.sIx n n (some h) = min h.toNat n := by
    show (if h < 0 then (h + (n : Int)).toNat else min h.toNat n) = _
    rw [if_neg (by omega)]
  have e2 : HT.sIx n 0 (some (h + 1)) = min (h + 1).toNat n := by
    show (if h + 1 < 0 then (h + 1 + (n : Int)).toNat else min (h + 1).toNat n) = _
    rw [if_neg (by omega)]
  constructor
  · unfold cutX
    simp only [List.length_append, List.length_take, List.length_drop, List.length_replicate, HT.sIx_none, e1, e2]
    omega
  · intro x hx
    have key : ∀ lo hi, x ∈ cutX (List.replicate n (1 : Int)) lo hi → x = 1 := fun lo hi z => by
      unfold cutX at z
      exact (List.mem_replicate.mp (List.mem_of_mem_drop (List.mem_of_mem_take z))).2
    rcases List.mem_append.mp hx with z | z
    · exact key _ _ z
    · exact key _ _ z
theorem left_ok (L : LawIn m fs net) (big : 2 < m) (h : PairOk m a b) : LeftOk m fs a b := by
  obtain ⟨h1, h2, h3, h4, h5⟩ := id h
  have h6 := L.m6
  have h20 := L.h20
  have el : (List.replicate m.toNat (1 : Int)).length = m.toNat := List.length_replicate
  have hh : 0 ≤ max a b ∧ max a b < m := by omega
  obtain ⟨c1, c2⟩ := cut_ones (n := m.toNat) (h := max a b) (by omega)
  have n1 : fs.map (leftRow (max a b)) ≠ [] := by simpa using L.fears.1
  have gl := greatest_len _ n1
  rw [List.length_map] at gl
  refine ⟨L.fear6, big, h, by omega, ones_ok L, ⟨⟨fun e => ?_, fun x hx => by rw [c2 x hx]; omega⟩, ?_, ?_⟩, c1, ?_⟩
  · have := congrArg List.length e
    rw [show ((leftIn (List.replicate m.toNat (1 : Int), fs) (max a b)).1).length = m.toNat - 1 from c1] at this
    simp only [List.length_nil] at this
    omega
  · rw [show ((leftIn (List.replicate m.toNat (1 : Int), fs) (max a b)).1).length = m.toNat - 1 from c1]
    omega
  · rw [show ((leftIn (List.replicate m.toNat (1 : Int), fs) (max a b)).1).length = m.toNat - 1 from c1, show (((m.toNat - 1 : Nat)) : Int) = m - 1 by omega]
    show FearsOk (m - 1) (greatest (fs.map (leftRow (max a b))))
    rw [greatest_eq n1]
    refine fears_greatest (fun l hl => ?_) n1
    obtain ⟨f, hf, rfl⟩ := List.mem_map.mp hl
    exact leftRow_ok hh (L.fears.2.1 f hf)
  · show (greatest (fs.map (leftRow (max a b)))).length ≤ 31
    omega
theorem others_both (L : LawIn m fs net) (h : PairOk m a b) {l : Lot} (hl : l ∈ lawBetween (lawFeared m fs) a b) : a ∈ others m l ∧ b ∈ others m l := by
  obtain ⟨q1, q2, q3, _⟩ := mem_lawBetween L.h0 hl
  exact ⟨mem_others.mpr ⟨⟨h.1, h.2.1⟩, q2⟩, mem_others.mpr ⟨⟨h.2.2.1, h.2.2.2.1⟩, q3⟩⟩
theorem between_len (L : LawIn m fs net) : (lawBetween (lawFeared m fs) a b).length ≤ 64 := lots_small L.h0 L.m6 (lots_nd (lawBetween_lt _)) fun l hl => (mem_lawBetween L.h0 hl).1
theorem others_len6 (h6 : m ≤ 6) : (others m lot).length ≤ 6 := by
  have z := List.Nodup.length_le_of_subset (lt_nodup (others_lt m lot)) (l₂ := rng 0 6) fun x hx => mem_rng.mpr (by have := (mem_others.mp hx).1; omega)
  rw [rng_len] at z
  exact z
theorem drawn_law (L : LawIn m fs net) (h : PairOk m a b) : DrawnLaw m net fs (lawFeared m fs) a b where
  net6 := L.net6
  fears := L.fear6
  pair := h
  few := ⟨fe_len L, fe_few L h⟩
  lotok l hl := (mem_lawBetween L.h0 hl).1
  left big := by
    have hne : a ≠ b := fun e => h.2.2.2.2 e.symm
    refine ⟨left_ok L big h, left_eq L.h0 L.fears hne, ?_⟩
    have ok := left_ok L big h
    have h6 := L.m6
    show Small (greatest ((greatest (fs.map (leftRow (max a b)))).map (leftRow (min a b))))
    have n1 : fs.map (leftRow (max a b)) ≠ [] := by simpa using L.fears.1
    have s1 : ∀ l ∈ fs.map (leftRow (max a b)), LotOk (m - 1) l := fun l hl => by
      obtain ⟨f, hf, rfl⟩ := List.mem_map.mp hl
      exact leftRow_ok (by obtain ⟨q1, q2, q3, q4, q5⟩ := h; omega) (L.fears.2.1 f hf)
    have n2 : (greatest (fs.map (leftRow (max a b)))).map (leftRow (min a b)) ≠ [] := by
      rw [greatest_eq n1]
      simpa using lawGreatest_ne (fun l hl => (s1 l hl).1) n1
    rw [greatest_eq n2]
    refine small_lots (m := m - 1 - 1) (by omega) (by omega) (lots_nd (lawGreatest_lt _)) fun l hl => ?_
    obtain ⟨f, hf, rfl⟩ := List.mem_map.mp (mem_lawGreatest.mp hl).1
    rw [greatest_eq n1] at hf
    exact leftRow_ok (by obtain ⟨q1, q2, q3, q4, q5⟩ := h; omega) (s1 f (mem_lawGreatest.mp hf).1)
  few2 ls hr := by
    obtain ⟨r, e⟩ := hr
    have z := (joint_len (a := a) (b := b) L.hw (ls := ls) fun l hl => others_both L h (by rw [e]; exact List.mem_append_left _ hl)).1
    have z2 := between_len (a := a) (b := b) L
    rw [e, List.length_append] at z2
    omega
  few3 l hl := by
    have := sides_len (lot := l) L.hw
    have := others_len6 (lot := l) L.m6
    omega
  send := by
    have z := (joint_len (a := a) (b := b) L.hw (ls := lawBetween (lawFeared m fs) a b) fun l hl => others_both L h hl).2
    rw [Bool.eq_iff_iff, canSend_iff L.h0 L.fears L.hw, decide_eq_true_eq, ← z]
    omega
theorem full_lot (h0 : 0 ≤ m) : LotOk m (rng 0 m.toNat) := ⟨rng_lt 0 _, fun x hx => by have := mem_rng.mp hx; omega⟩
theorem grounds_law (L : LawIn m fs net) (hl : LotOk m lot) : GroundsLaw m net fs (divided m net (lawFeared m fs)) lot where
  net6 := L.net6
  two := L.m2
  ground := ones_ok L
  h31 := by have := L.h20; omega
  lotok := hl
  more := by
    refine ⟨L.many, ?_, ?_⟩
    · rw [greatest_eq (by simp)]
      refine fears_greatest (fun f hf => ?_) (by simp)
      rcases List.mem_append.mp hf with z | z
      · exact L.fears.2.1 f z
      · rw
              [List.mem_singleton.mp z]
        exact hl
    · have z := greatest_len (fs ++ [lot]) (by simp)
      rw [List.length_append, List.length_singleton] at z
      have := L.h20
      omega
  lh100 := by
    have z : (divided m net (lawFeared m fs)).length ≤ (lawFeared m fs).length := List.length_filter_le _ _
    have := fe_len L
    omega
  few := by
    have h0 := L.h0
    have h2 := L.m2
    have e0 : others m (rng 0 m.toNat) = [] := by
      rw
              [List.eq_nil_iff_forall_not_mem]
      intro x hx
      obtain ⟨q1, q2⟩ := mem_others.mp hx
      exact q2 (mem_rng.mpr (by omega))
    have e1 : (others m (rng 0 (m.toNat - 1))).length ≤ 1 := by
      have z := List.Nodup.length_le_of_subset (lt_nodup (others_lt m (rng 0 (m.toNat - 1)))) (l₂ := [m - 1]) fun x hx => by
        obtain ⟨q1, q2⟩ := mem_others.mp hx
        refine List.mem_singleton.mpr (Classical.byContradiction fun e => q2 (mem_rng.mpr (by omega)))
      exact z
    have no : ∀ l : Lot, 1 < ((sides m net l).length : Int) → l ≠ rng 0 m.toNat ∧ l ≠ rng 0 (m.toNat - 1) := fun l h => by
      have z := sides_len (lot := l) L.hw
      constructor
      · intro e
        rw [e, e0] at z
        rw [e] at h
        simp only [List.length_nil] at z
        omega
      · intro e
        rw [e] at z h
        omega
    refine few_two L.h0 L.m6 (u := rng 0 m.toNat) (v := rng 0 (m.toNat - 1)) (fun l hx => ?_) (full_lot h0) ⟨rng_lt 0 _, fun x hx => by have := mem_rng.mp hx; omega⟩ (fun e => ?_)
    · rcases List.mem_append.mp hx with z | z
      · obtain ⟨q1, q2⟩ := (mem_divided L.hw).mp z
        exact ⟨((mem_lawFeared h0).mp q1).1, no l q2⟩
      · obtain ⟨q1, q2⟩ := (mem_divided L.hw).mp z
        exact ⟨((mem_parts h0).mp q1).1, no l q2⟩
    · have := congrArg List.length e
      rw [rng_len, rng_len] at this
      omega
  due1 := more_eq L.h0 L.fears L.hw hl
  small1 := small_lots L.h0 L.m6 (lots_nd dividing_lt) fun l hx => ((mem_dividing L.h0).mp hx).1
  less hne := by
    have bl := blind_most L.m6 L.fears.2.1 (lots_nd L.fears.2.2.1) hl L.h20
    have e1 := less_eq L.h0 L.fears L.hw hne
    have bn := blind_ne (lot := lot) L.fears.1 hne
    refine ⟨bl, ⟨L.many, ?_, ?_⟩, e1, small_lots L.h0 L.m6 (lots_nd dividing_lt) fun l hx => ((mem_dividing L.h0).mp hx).1, ?_⟩
    · rw [blind_eq L.fears hne]
      exact fears_greatest (blindRows_ok L.fears.2.1) bn
    · unfold blind
      have := greatest_len _ bn
      omega
    · unfold sturdy
      rw [e1]
      refine decide_eq_decide.mpr ?_
      show (((restOf (divided m net (lawFeared m fs)) lot).length : Nat) : Int) = 0 ↔ _
      rw [← List.length_eq_zero_iff]
      omega
end
end Dy
/-! ## M7 -/
namespace Dy
open Mi
theorem way_len {m : Int} {net : List Wire} {w : Lot} (h : Net6 m net ∧ WayOk m net w) : w.length ≤ 1000 := by
  obtain ⟨h1, h2, h3, _⟩ := h
  have z := List.Nodup.length_le_of_subset h2 (l₂ := rng 0 6) fun x hx => mem_rng.mpr (by have := h3 x hx; have := h1.1.2; omega)
  rw [rng_len] at z
  omega
theorem paper_b {m a b : Int} {fs : List Lot} (h : Fear6 m fs) : ∀ l ∈ between fs a b, a ∉ l := fun l hl => by
  have h0 : 0 ≤ m := by have := h.1.1; omega
  rw [between_eq h0 h.2.1] at hl
  exact (mem_lawBetween h0 hl).2.1
theorem paper_len {m a b : Int} {fs : List Lot} (h : Fear6 m fs) : (between fs a b).length ≤ 1000 := by
  have h0 : 0 ≤ m := by have := h.1.1; omega
  rw [between_eq h0 h.2.1]
  have := lots_small h0 h.1.2 (lots_nd (lawBetween_lt (a := a) (b := b) (lawFeared m fs))) fun l hl => (mem_lawBetween h0 hl).1
  omega
end Dy
/-! ## Nt6 -/
namespace Dy
open PySem L2 PyProof.Rows Mi
local macro_rules | `(tactic| trivial) => `(tactic| (repeat (first | exact Le.stop | apply Le.same | apply Le.drop)); done)
theorem pair_of {m : Int} {net : List Wire} (h : Net6 m net) : ∀ p ∈ net, PairOk m p.1 p.2 := fun p hp => by
  obtain ⟨h1, h2, h3⟩ := h.2.1 p hp
  exact ⟨h1, by omega, by omega, h3, by omega⟩
section
variable {P : Program} {w : World} {K : Fg} {mg : Str → Option Value} {base : Heap}
theorem fnr_of {k : Nat} {f : Addr} {fd : FuncData} {ps : List Str} {sp : Sp} (F : FnOk P w K mg base CX0 k f fd ps sp) (b : Binds K fd ps []) : FnR P w K mg base CX0 k f sp := (F.raw b .nil).imp fun vs H Q E h => by
  rw [List.append_nil]
  exact h
theorem run_Net_past (T : Hd.Tx K mg) (n : NetO) (lot : Lot) (a b : Int) (hp : Net6 n.m n.net ∧ LotOk n.m lot ∧ PairOk n.m a b ∧ a ∉ lot ∧ b ∉ lot) : Run K (rd_Net_past P w K) [.fz n, .fz lot, .fz a, .fz b] (.ret (bareWay n.net lot a b) []) :=
  r_ret (EvN.ev (ev_sp5 (ea_cons (ev_houses T (ev_fz rfl)) (ea_cons (ev_wires T (ev_fz rfl)) (ea_cons (ev_fz rfl) (ea_cons (ev_fz rfl) (ea_cons (ev_fz rfl) ea_nil))))) hp))
theorem run_Net_call (T : Hd.Tx K mg) (n : NetO) (lot : Lot) (hp : Net6 n.m n.net ∧ LotOk n.m lot) : Run K (rd_Net___call__ P w K) [.fz n, .fz lot] (.ret (sides n.m n.net lot) []) :=
  r_ret (EvN.ev (ev_sp3 (ea_cons (ev_houses T (ev_fz rfl)) (ea_cons (ev_wires T (ev_fz rfl)) (ea_cons (ev_fz rfl) ea_nil))) hp))
theorem run_Net_getitem (T : Hd.Tx K mg) (n : NetO) (h : Int) (hp : Net6 n.m n.net ∧ 0 ≤ h ∧ h < n.m) : Run K (rd_Net___getitem__ P w K) [.fz n, .fz h] (.ret (wired n.net h) []) :=
  r_ret (EvN.ev (ev_sp3 (ea_cons (ev_houses T (ev_fz rfl)) (ea_cons (ev_wires T (ev_fz rfl)) (ea_cons (ev_fz rfl) ea_nil))) hp))
theorem run_Net_len (T : Hd.Tx K mg) (n : NetO) : Run K (rd_Net___len__ P w K) [.fz n] (.ret ((n.net.length : Nat) : Int) []) :=
  r_ret (ev_len (Ev.sqT (ev_wires T (ev_fz rfl))))
theorem run_Net_eq1 (T : Hd.Tx K mg) (n p : NetO) : Run K (rd_Net___eq__ P w K) [.fz n, .fz p] (.ret (decide (n.m = p.m) && decide (n.net = p.net)) []) :=
  r_retIs (ev_andV (ev_isNet T (ev_fz rfl)) (fun _ => (ev_andV (ev_eqU (α := Int) (ev_houses T (ev_fz rfl)) (ev_houses T (ev_fz rfl))) (fun _ => (ev_eqU (α := List (Int × Int)) (ev_wires T (ev_fz rfl)) (ev_wires T (ev_fz rfl))))))) (by rw [Bool.true_and])
theorem run_Net_eq2 (T : Hd.Tx K mg) (n : NetO) (ws : List Wire) : Run K (rd_Net___eq__ P w K) [.fz n, .fz ws] (.ret false []) :=
  r_retIs (ev_andV (b := true) (ev_isTup T (ev_fz (x := ws) rfl)) (fun z => nomatch z)) rfl
theorem run_Net_add (T : Hd.Tx K mg) (n p : NetO) (hp : Net6 n.m n.net ∧ Net6 p.m p.net ∧ p.m = n.m) : Run K (rd_Net___add__ P w K) [.fz n, .fz p, .any] (.ret (NetO.mk n.m (netBy (n.net ++ p.net))) []) := by
  obtain ⟨h1, h2, h3⟩ := hp
  have l1 := net_len h1.2 h1.1.2
  have l2 := net_len h2.2 h2.1.2
  refine r_want (ev_andV (ev_isNet T (ev_fz rfl)) (fun _ => (ev_eqU (α := Int) (ev_houses T (ev_fz rfl)) (ev_houses T (ev_fz rfl))))) (by simp [h3]) ?_
  refine r_seq (r_set (ev_addT (ev_wires T (ev_fz rfl)) (ev_wires T (ev_fz rfl)) (by unfold LIM; omega))) ?_
  refine r_ret (ev_make (ev_houses T (ev_fz rfl)) (ea_starT (Ev.sqT (ev_fz rfl))) h1.1 (fun q hq => ?_) (by rw [List.length_append]; omega))
  rcases List.mem_append.mp hq with z | z
  · exact pair_of h1 q z
  · have := pair_of h2 q z
    rwa [h3] at this
theorem run_Net_invert (T : Hd.Tx K mg) (n : NetO) (hp : Net6 n.m n.net) : Run K (rd_Net___invert__ P w K) [.fz n, .any, .any] (.ret (NetO.mk n.m (netBy ((mesh n.m).filter fun w => !decide (w ∈ n.net)))) []) := by
  have e0 : 0 ≤ n.m := by have := hp.1.1; omega
  have ml : (mesh n.m).length ≤ 15 := by
    have z := List.Nodup.length_le_of_subset (l₁ := mesh n.m) (l₂ := mesh 6) ?_ fun p h => (mem_mesh (by decide)).mpr (wire_mono ((mem_mesh e0).mp h) hp.1.2)
    · have e : (mesh 6).length = 15 := by decide +kernel
      omega
    · have h1 := hp.1.1
      have h2 := hp.1.2
      have : n.m = 1 ∨ n.m = 2 ∨ n.m = 3 ∨ n.m = 4 ∨ n.m = 5 ∨ n.m = 6 := by omega
      rcases this with e | e | e | e | e | e <;> rw [e] <;> decide +kernel
  refine r_seq (r_setL (EvN.is (ev_lc (f := fun (l : Wire) => l) (ei_seq (Ev.sqT (EvN.ev (ev_sp1 (ea_cons (ev_houses T (ev_fz rfl)) ea_nil) hp.1)))) (fun x hx => eg_name) (fun x hx => (et_test (ev_notIn (ev_fz rfl) (Ev.sqT (ev_wires T (ev_fz rfl)))))) (fun x hx hp => (ev_fz rfl))) (show _ = Lst.mk ((mesh n.m).filter fun w => !decide (w ∈ n.net)) from by rw [List.map_id']; congr 2; funext x; congr))) ?_
  refine r_ret (ev_make (ev_houses T (ev_fz rfl)) (ea_starT (Ev.sqL (ev_ow rfl))) hp.1 (fun q hq => ?_) ?_)
  · have z := (mem_mesh e0).mp (List.mem_filter.mp hq).1
    exact ⟨z.1, by have := z.2.1; have := z.2.2; omega, by have := z.1; have := z.2.1; omega, z.2.2, by have := z.2.1; omega⟩
  · have : ((mesh n.m).filter fun w => !decide (w ∈ n.net)).length ≤ (mesh n.m).length := List.length_filter_le _ _
    omega
end
end Dy
/-! ## Nt7 -/
namespace Dy
open PySem L2 PyProof.Rows Mi
/-- an address -/
structure RefO where
  a : Addr
instance : Kp RefO where
  R _ _ v r := v = .ref r.a
  mono _ h := h
  nw _ _ := True
  nwm _ h := h
  keep _ h := h
  nwT _ _ := trivial
section
variable {P : Program} {w : World} {K : Fg} {mg : Str → Option Value} {base : Heap}
theorem ins_t {H : Hp} {x a C dx : Addr} {fs : List (Str × V)} {o : HO} {xs : List V} (hx : H x = some (.ins C dx fs)) (h : SqT K H a xs) : SqT K (upd H x o) a xs := by
  rcases h with (h | ⟨u, h⟩) | h
  · refine .inl (.inl ?_)
    rw [upd_ne (fun z => by rw [z, hx] at h; cases h)]
    exact h
  · refine .inl (.inr ⟨u, ?_⟩)
    rw [upd_ne (fun z => by rw [z, hx] at h; cases h)]
    exact h
  · exact .inr h
theorem ins_net {H : Hp} {x C dx : Addr} {fs : List (Str × V)} {o : HO} {v : V} {ws : List Wire} (hx : H x = some (.ins C dx fs)) (h : Enc.R K H v ws) : Enc.R K (upd H x o) v ws := by
  obtain ⟨a, vs, e, h2, h3, h4⟩ := h
  exact ⟨a, vs, e, ins_t hx h2, h3, paired_mono (fun _ _ ⟨b, v1, v2, e1, e2, e3, e4⟩ => ⟨b, v1, v2, e1, ins_t hx e2, e3, e4⟩) h4⟩
theorem kn_one {H : Hp} {σ : L2.St} {v : V} {ws : List Wire} (hl : 3 ≤ σ.length) (h : σ[2]? = some (some v)) (r : Enc.R K H v ws) : Kn K H (fun _ => none) H σ [.any, .any, .fz ws] where
  len := hl
  exB := Evl.Ex.refl H
  exF := fun _ _ z => nomatch z
  at_ i e q := by
    match i, q with
    | 0, q =>
      cases q
      trivial
    | 1, q =>
      cases q
      trivial
    | 2, q =>
      cases q
      exact ⟨v, h, r⟩
    | i + 3, q => simp at q
  dis i j l n n' P P' _ q1 _ _ _ := by
    match i, q1 with
    | 0, q => cases q
    | 1, q => cases q
    | 2, q => cases q
    | i + 3, q => simp at q
/-- what __init__'s body does -/
theorem run_init (T : Hd.Tx K mg) {H : Hp} {x dx p : Addr} {m : Int} {ws : List Wire} {Q : VK} (hx : H x = some (.ins (nC K) dx [])) (hr : Enc.R K H (.ref p) ws) (hm : ManyOk m) (hp : ∀ p ∈ ws, PairOk m p.1 p.2) (hl : ws.length ≤ 62)
    (hq : ∀ H', (∀ b o, b ≠ x → H b = some o → H' b = some o) → Enc.R K H' (.ref x) (NetO.mk m (netBy ws)) → Q .non H') : rd_Net___init__ P w K { nx := fun _ H' => Q .non H', rt := Q } (L2.start ["self", "many", "wires"] [.ref x, .int m, .ref p]) H := by
  have k0 : Kn K H (fun _ => none) H (L2.start ["self", "many", "wires"] [.ref x, .int m, .ref p]) [.fz (RefO.mk x), .fz m, .fz ws] :=
    kn_start (Γ := [.fz (RefO.mk x), .fz m, .fz ws]) (.cons ⟨_, rfl, rfl⟩ (fun _ _ z => nomatch z) (.cons ⟨_, rfl, rfl⟩ (fun _ _ z => nomatch z) (.cons ⟨_, rfl, hr⟩ (fun _ _ z => nomatch z) .nil))) (Nat.le_refl 3)
  have s1 : Run K (tDrop (tCall (sp_a_want K) [] E0 (tCons (tCall (sp_many_fits K) [] E0 (tCons (tVar 1) tNil)) (tCons (tC (.str "many")) tNil)))) [.fz (RefO.mk x), .fz m, .fz ws] (.next [.fz (RefO.mk x), .fz m, .fz ws] : Out Unit) :=
    r_drop (EvN.ev (ev_sp2 (ea_cons (EvN.ev (ev_sp1 (ea_cons (ev_fz rfl) ea_nil) True.intro)) (ea_cons ev_str ea_nil)) (many_true hm)))
  have s2 : Run K (tDrop (tCall (sp_a_want K) [] E0 (tCons (tCall (sp_pairs_fit K) [] E0 (tCons (tVar 1) (tCons (tVar 2) tNil))) (tCons (tC (.str "wires")) tNil)))) [.fz (RefO.mk x), .fz m, .fz ws] (.next [.fz (RefO.mk x), .fz m, .fz ws] : Out Unit) :=
    r_drop (EvN.ev (ev_sp2 (ea_cons (EvN.ev (ev_sp2 (ea_cons (ev_fz rfl) (ea_cons (ev_fz rfl) ea_nil)) hp)) (ea_cons ev_str ea_nil)) rfl))
  refine s1 H _ _ H _ k0 fun σ1 H1 k1 => s2 H _ σ1 H1 _ k1 fun σ2 H2 k2 => ?_
  have hx2 := k2.exB _ _ hx
  obtain ⟨v0, e0, r0⟩ := k2.at_ 0 _ rfl
  obtain ⟨v1, e1, r1⟩ := k2.at_ 1 _ rfl
  obtain ⟨v2, e2, r2⟩ := k2.at_ 2 _ rfl
  have r0 : v0 = .ref x := r0
  have r1 : v1 = .int m := r1
  subst r0 r1
  refine ⟨.int m, e1, .ref x, e0, x, nC K, dx, [], rfl, hx2, nt_cls_Net T, nt_noat_Nethouses T, by decide, ?_⟩
  have r3 : Enc.R K (upd H2 x (.ins (nC K) dx (putF "_houses" (.int m) []))) v2 ws := ins_net hx2 r2
  have ev : Ev K (tCall (sp_net_by K) [] E0 (tCons (tVar 2) tNil)) [.any, .any, .fz ws] (netBy ws) := EvN.ev (ev_sp1 (ea_cons (ev_fz rfl) ea_nil) hl)
  refine ev _ _ σ2 _ (kn_one k2.len e2 r3) _ fun v H4 e4 r4 => ⟨.ref x, e0, x, nC K, dx, _, rfl, e4 _ _ upd_same, nt_cls_Net T, nt_noat_Netwires T, (show 1 < 1000 by decide), ?_⟩
  refine hq _ (fun b o hb ho => ?_) ⟨x, dx, v, rfl, upd_same, ins_net (e4 _ _ upd_same) r4⟩
  rw [upd_ne hb]
  refine e4 b o ?_
  rw [upd_ne hb]
  exact k2.exB b o ho
theorem ca_Net___init__ (T : Hd.Tx K mg) (c_net_by : Cal P w K mg base 2 "net_by" ["pairs"] (sp_net_by K)) (c_pairs_fit : Cal P w K mg base 4 "pairs_fit" ["many", "things"] (sp_pairs_fit K)) (c_a_want : Cal P w K mg base 1 "a_want" ["good", "word"] (sp_a_want K)) (c_many_fits : Cal P w K mg base 2 "many_fits" ["thing"] (sp_many_fits K)) :
    FnR P w K mg base CX0 8 (nM K "__init__") (sp_Net___init__ K) := by
  obtain ⟨fd, F⟩ := T.f_Net___init__
  obtain ⟨oc, od, dV, kV, doc, pm, an, cdv, ct, osl, rfl, lk, hcd, hD, _⟩ := F.ex
  have dn : dV = .none := hD.elim (fun z => z.2) fun z => absurd rfl z.1
  subst dn
  refine (StX.fn_star (ps := ["self", "many"]) (pv := "wires") (k := 7) (sp := fun vs H Q _ => ∃ (x dx p : Addr) (m : Int) (ws : List Wire), vs = [V.ref x, V.int m, V.ref p] ∧ H x = some (.ins (nC K) dx []) ∧ Enc.R K H (.ref p) ws ∧ ManyOk m ∧ (∀ p ∈ ws, PairOk m p.1 p.2) ∧ ws.length ≤ 62 ∧
    ∀ H', (∀ b o, b ≠ x → H b = some o → H' b = some o) → Enc.R K H' (.ref x) (NetO.mk m (netBy ws)) → Q .non H') lk hcd sc_Net___init__ StX.cxUp_none (fun us rest hl => StX.bind_star2 (B := fun l => bindArgs (PySem.W.fnOf "__init__" "Net.__init__" (defArgs Hd.s_Net___init__) (defBody Hd.s_Net___init__) (defScope Hd.s_Net___init__) .none kV doc pm an cdv ct) ⟨l, []⟩) (p1 := "self") (p2 := "many") (pv := "wires") (fun a b => by first | rfl | kernel_rfl) (fun a b r rs => by first | rfl | kernel_rfl) us rest hl) ?_).imp ?_
  · rintro A outer s H vs Q E hr ⟨x, dx, p, m, ws, rfl, hx, hr2, hm, hp, hl, hq⟩
    obtain ⟨t, h, e⟩ := tm_Net___init__ T c_net_by c_pairs_fit c_a_want c_many_fits (f := nM K "__init__") cdv A outer s H E hr
    exact ⟨t, PSs.nox h, by rw [e]; exact run_init T hx hr2 hm hp hl hq⟩
  · rintro vs H Q E ⟨x, dx, m, vws, ws, rfl, hx, hpw, hm, hp, hl, hq⟩
    have len := paired_len hpw
    refine ⟨[.ref x, .int m], vws, rfl, rfl, lim_le (by unfold LIM; omega), fun p hn => ⟨x, dx, p, m, ws, rfl, ?_, ⟨p, vws, rfl, SqT.of upd_same, by unfold LIM; omega, paired_mono (fun _ _ r => Enc.mono (Evl.Ex.new hn) r) hpw⟩, hm, hp, hl, fun H' keep r => hq H' (fun b o hb ho => keep b o hb (Evl.Ex.new hn _ _ ho)) r⟩⟩
    exact Evl.Ex.new hn _ _ hx
theorem ca_Net_past (T : Hd.Tx K mg) (c : Cal P w K mg base 6 "way_past" ["many", "net", "lot", "one", "other"] (sp_way_past K)) : FnR P w K mg base CX0 10 (nM K "past") (sp_Net_past K) := by
  obtain ⟨fd, F⟩ := T.f_Net_past
  refine fnr_of (fn4 F sc_Net_past (by decide) (fun cdv A outer s H E hr => ?_)) (F.bindsN (fun _ _ _ _ _ _ us hl => match us, hl with | [_, _, _, _], _ => rfl))
  obtain ⟨t, h, e⟩ := tm_Net_past T c (f := nM K "past") cdv A outer s H E hr
  exact ⟨t, h, fun x1 x2 x3 x4 hp => by rw [e]; exact run_Net_past T x1 x2 x3 x4 hp⟩
theorem ca_Net___call__ (T : Hd.Tx K mg) (c : Cal P w K mg base 6 "sides_of" ["many", "net", "lot"] (sp_sides_of K)) : FnR P w K mg base CX0 10 (nM K "__call__") (sp_Net___call__ K) := by
  obtain ⟨fd, F⟩ := T.f_Net___call__
  refine fnr_of (fn2 F sc_Net___call__ (by decide) (fun cdv A outer s H E hr => ?_)) (F.bindsN (fun _ _ _ _ _ _ us hl => match us, hl with | [_, _], _ => rfl))
  obtain ⟨t, h, e⟩ := tm_Net___call__ T c (f := nM K "__call__") cdv A outer s H E hr
  exact ⟨t, h, fun x1 x2 hp => by rw [e]; exact run_Net_call T x1 x2 hp⟩
theorem ca_Net___getitem__ (T : Hd.Tx K mg) (c : Cal P w K mg base 6 "wired_to" ["many", "net", "house"] (sp_wired_to K)) : FnR P w K mg base CX0 10 (nM K "__getitem__") (sp_Net___getitem__ K) := by
  obtain ⟨fd, F⟩ := T.f_Net___getitem__
  refine fnr_of (fn2 F sc_Net___getitem__ (by decide) (fun cdv A outer s H E hr => ?_)) (F.bindsN (fun _ _ _ _ _ _ us hl => match us, hl with | [_, _], _ => rfl))
  obtain ⟨t, h, e⟩ := tm_Net___getitem__ T c (f := nM K "__getitem__") cdv A outer s H E hr
  exact ⟨t, h, fun x1 x2 hp => by rw [e]; exact run_Net_getitem T x1 x2 hp⟩
theorem ca_Net___len__ (T : Hd.Tx K mg) : FnR P w K mg base CX0 4 (nM K "__len__") (sp_Net___len__ K) := by
  obtain ⟨fd, F⟩ := T.f_Net___len__
  refine fnr_of (fn1 F sc_Net___len__ (by decide) (fun cdv A outer s H E hr => ?_)) (F.bindsN (fun _ _ _ _ _ _ us hl => match us, hl with | [_], _ => rfl))
  obtain ⟨t, h, e⟩ := tm_Net___len__ T (f := nM K "__len__") cdv A outer s H E hr
  exact ⟨t, h, fun x1 hp => by rw [e]; exact run_Net_len T x1⟩
theorem ca_Net___iter__ (T : Hd.Tx K mg) : FnR P w K mg base CX0 4 (nM K "__iter__") (sp_Net___iter__ K) := by
  obtain ⟨fd, F⟩ := T.f_Net___iter__
  refine fnr_of (FunD.ok F sc_Net___iter__ (fun vs H Q E h => ?_) (fun cdv A outer s H vs Q E hr h => ?_)) (F.bindsN (fun _ _ _ _ _ _ us hl => match us, hl with | [_], _ => rfl))
  · obtain ⟨a, dx, fs, l, zs, rfl, _⟩ := h
    rfl
  · obtain ⟨t, h1, e⟩ := tm_Net___iter__ T (f := nM K "__iter__") cdv A outer s H E hr
    obtain ⟨a, dx, fs, l, zs, rfl, ha, hw, hs, q⟩ := h
    refine ⟨t, PSs.nox h1, ?_⟩
    rw [e]
    exact ⟨.ref a, rfl, a, _, dx, fs, .ref l, rfl, ha, nt_cls_Net T, nt_noat_Netwires T, hw, l, zs, rfl, hs, q⟩
theorem ca_Net___invert__ (T : Hd.Tx K mg) (ci : FnR P w K mg base CX0 8 (nM K "__init__") (sp_Net___init__ K)) (c : Cal P w K mg base 3 "mesh_of" ["many"] (sp_mesh_of K)) : FnR P w K mg base CX0 16 (nM K "__invert__") (sp_Net___invert__ K) := by
  obtain ⟨fd, F⟩ := T.f_Net___invert__
  refine fnr_of (fn1 F sc_Net___invert__ (by decide) (fun cdv A outer s H E hr => ?_)) (F.bindsN (fun _ _ _ _ _ _ us hl => match us, hl with | [_], _ => rfl))
  obtain ⟨t, h, e⟩ := tm_Net___invert__ T ci c (f := nM K "__invert__") cdv A outer s H E hr
  exact ⟨t, h, fun x1 hp => by rw [e]; exact run_Net_invert T x1 hp⟩
theorem ca_Net___add__ (T : Hd.Tx K mg) (ci : FnR P w K mg base CX0 8 (nM K "__init__") (sp_Net___init__ K)) (c : Cal P w K mg base 1 "a_want" ["good", "word"] (sp_a_want K)) : FnR P w K mg base CX0 12 (nM K "__add__") (sp_Net___add__ K) := by
  obtain ⟨fd, F⟩ := T.f_Net___add__
  refine fnr_of (fn2 F sc_Net___add__ (by decide) (fun cdv A outer s H E hr => ?_)) (F.bindsN (fun _ _ _ _ _ _ us hl => match us, hl with | [_, _], _ => rfl))
  obtain ⟨t, h, e⟩ := tm_Net___add__ T ci c (f := nM K "__add__") cdv A outer s H E hr
  exact ⟨t, h, fun x1 x2 hp => by rw [e]; exact run_Net_add T x1 x2 hp⟩
theorem ca_Net___eq__ (T : Hd.Tx K mg) : FnR P w K mg base CX0 4 (nM K "__eq__") (sp_Net___eq__ K) := by
  obtain ⟨fd, F⟩ := T.f_Net___eq__
  have b : Binds K fd ["self", "other"] [] := F.bindsN (fun _ _ _ _ _ _ us hl => match us, hl with | [_, _], _ => rfl)
  have f1 : FnR P w K mg base CX0 4 (nM K "__eq__") (sp_eq1 K) := by
    refine fnr_of (fn2 F sc_Net___eq__ (by decide) (fun cdv A outer s H E hr => ?_)) b
    obtain ⟨t, h, e⟩ := tm_Net___eq__ T (f := nM K "__eq__") cdv A outer s H E hr
    exact ⟨t, h, fun x1 x2 hp => by rw [e]; exact run_Net_eq1 T x1 x2⟩
  have f2 : FnR P w K mg base CX0 4 (nM K "__eq__") (sp_eq2 K) := by
    refine fnr_of (fn2 F sc_Net___eq__ (by decide) (fun cdv A outer s H E hr => ?_)) b
    obtain ⟨t, h, e⟩ := tm_Net___eq__ T (f := nM K "__eq__") cdv A outer s H E hr
    exact ⟨t, h, fun x1 x2 hp => by rw [e]; exact run_Net_eq2 T x1 x2⟩
  exact fun A outer s H us vs Q E hr e0 r h => h.elim (f1 A outer s H us vs Q E hr e0 r) (f2 A outer s H us vs Q E hr e0 r)
end
end Dy
/-! ## Sp5 -/
namespace Mi
open Dy
/-! ### wires in order -/
theorem ssort_id {ls : List Lot} (h : ls.Pairwise (· < ·)) : ssort ls = ls := lots_ext (ssort_lt ls) h fun l => mem_ssort
theorem ssortW_id {net : List Wire} (h : net.Pairwise fun p q => pl p < pl q) : ssortW net = net := by
  unfold ssortW
  rw [ssort_id (by rw [List.pairwise_map]; exact h), List.map_map]
  exact List.map_id' net
theorem netBy_id {m : Int} {net : List Wire} (h : NetOk m net) : netBy net = net := by
  unfold netBy
  have e : net.map (fun p => wireBetween p.1 p.2) = net := by
    have z : ∀ p ∈ net, wireBetween p.1 p.2 = p := fun p hp => by
      unfold wireBetween
      rw [if_pos (h.1 p hp).2.1]
    rw [List.map_congr_left z, List.map_id']
  rw [e, ssortW_id h.2]
theorem mesh_ok {m : Int} (h : ManyOk m) : NetOk m (mesh m) := by
  have h1 := h.1
  have h2 := h.2
  refine ⟨fun p hp => (mem_mesh (by omega)).mp hp, ?_⟩
  have e : ((mesh m).map pl).Pairwise (· < ·) := by
    rw [← lots_two h]
    exact (lots_lt m).filter _
  rwa [List.pairwise_map] at e
theorem NetOk.filter {m : Int} {net : List Wire} (h : NetOk m net) (p : Wire → Bool) : NetOk m (net.filter p) := ⟨fun q hq => h.1 q (List.mem_filter.mp hq).1, h.2.filter p⟩
theorem NetOk.pre {m : Int} {pre post : List Wire} (h : NetOk m (pre ++ post)) : NetOk m pre := ⟨fun q hq => h.1 q (List.mem_append_left _ hq), (List.pairwise_append.mp h.2).1⟩
theorem netBy_one {m : Int} {w : Wire} (h : WireOk m w) : netBy [(w.2, w.1)] = [w] := by
  have e : netBy [(w.2, w.1)] = netBy [w] := by
    unfold netBy
    congr 1
    have z : wireBetween w.2 w.1 = wireBetween w.1 w.2 := by
      have := h.2.1
      unfold wireBetween
      rw [if_neg (by omega), if_pos this]
    simp [z]
  rw [e]
  exact netBy_id (m := m) ⟨fun p hp => by rw [List.mem_singleton.mp hp]; exact h, by simp⟩
/-- the wires of a house, as the law finds them -/
def near (m : Int) (net : List Wire) (h : Int) : Lot := (rng 0 m.toNat).filter fun o => decide ((min h o, max h o) ∈ net)
theorem wired_near {m : Int} {net : List Wire} (hn : NetOk m net) (h0 : 0 ≤ m) (h : Int) : wired net h = near m net h := by
  have hw := hn.1
  have lt2 : (near m net h).Pairwise (· < ·) := (rng_lt 0 _).filter _
  refine (sortI_unique ((List.perm_ext_iff_of_nodup (lt_nodup lt2) ?_).mpr fun x => ?_) (lt2.imp fun {a b} z => Int.le_of_lt z)).symm
  · refine nodup_map ((net_nodup hn).filter _) fun p hp q hq e => ?_
    obtain ⟨p1, p2⟩ := List.mem_filter.mp hp
    obtain ⟨q1, q2⟩ := List.mem_filter.mp hq
    have t1 : h = p.1 ∨ h = p.2 := by simpa [touches] using p2
    have t2 : h = q.1 ∨ h = q.2 := by simpa [touches] using q2
    have l1 := (hw p p1).2.1
    have l2 := (hw q q1).2.1
    simp only [decide_eq_true_eq] at e
    refine Prod.ext ?_ ?_
    · split at e <;> split at e <;> omega
    · split at e <;> split at e <;> omega
  · have e : x ∈ (net.filter fun w => touches w h).map (fun w => if decide (w.1 = h) = true then w.2 else w.1) ↔ x ∈ wired net h := by
      unfold wired
      rw [sortI_mem]
    rw [e, wired_iff hw]
    unfold near
    rw [List.mem_filter, mem_rng, decide_eq_true_eq]
    constructor
    · rintro ⟨_, z⟩
      by_cases c : h ≤ x
      · rw [show min h x = h by omega, show max h x = x by omega] at z
        exact .inl z
      · rw [show min h x = x by omega, show max h x = h by omega] at z
        exact .inr z
    · rintro (z | z)
      · obtain ⟨w1, w2, w3⟩ := hw _ z
        simp only at w1 w2 w3
        refine ⟨by omega, ?_⟩
        rw [show min h x = h by omega, show max h x = x by omega]
        exact z
      · obtain ⟨w1, w2, w3⟩ := hw _ z
        simp only at w1 w2 w3
        refine ⟨by omega, ?_⟩
        rw [show min h x = x by omega, show max h x = h by omega]
        exact z
theorem without_ok {m : Int} {net : List Wire} (hn : NetOk m net) (w : Wire) : ∀ p ∈ without net w, WireOk m p := fun p hp => hn.1 p (List.mem_filter.mp hp).1
/-- the wires needed, as the law finds them -/
theorem needed_due {m : Int} {net : List Wire} {fs : List Lot} (hn : NetOk m net) : needed m net fs = lawDue m net (lawFeared m fs) := by
  unfold needed lawDue
  refine List.filter_congr fun w _ => ?_
  rw [fearedLots_eq, divided_eq (without_ok hn w), Bool.eq_iff_iff, List.any_eq_true, Bool.not_eq_true', decide_eq_false_iff_not, List.filter_eq_nil_iff]
  constructor
  · rintro ⟨l, hl, h⟩ z
    exact z l hl h
  · intro z
    refine Classical.byContradiction fun y => z fun l hl h => y ⟨l, hl, h⟩
theorem sturdy_iff {m : Int} {net : List Wire} {fs : List Lot} (hw : ∀ p ∈ net, WireOk m p) : sturdy m net fs = decide (divided m net (lawFeared m fs) = []) := by
  unfold sturdy
  rw [dividing_eq hw]
  refine decide_eq_decide.mpr ?_
  rw [← List.length_eq_zero_iff]
  omega
end Mi
namespace Dy
open PySem L2 PyProof.Rows Mi
section
variable (K : Fg)
def sp__law_object : Sp := sp2 K (fun (m : Int) (net : List Wire) => Net6 m net) (fun m net => NetO.mk m net)
/-- the law's ways past a lot -/
def PastIn (m : Int) (net : List Wire) (lot : Lot) (a b : Int) : Prop := Net6 m net ∧ LotOk m lot ∧ PairOk m a b ∧ a ∉ lot ∧ b ∉ lot
def sp__law_past : Sp := sp6 K (fun (m : Int) (net : List Wire) (lot : Lot) (a b : Int) (n : NetO) => n = NetO.mk m net ∧ PastIn m net lot a b) (fun _ _ _ _ _ _ => true)
def sp__law_sides : Sp := sp4 K (fun (m : Int) (net : List Wire) (lot : Lot) (n : NetO) => n = NetO.mk m net ∧ Net6 m net ∧ LotOk m lot) (fun _ _ _ _ => true)
def sp__law_needed : Sp := sp4 K (fun (m : Int) (net : List Wire) (fs : List Lot) (fe : Lst Lot) => fe.l = lawFeared m fs ∧ LawIn m fs net) (fun _ _ _ _ => true)
end
end Dy
/-! ## Dw1 -/
namespace Dy
open PySem L2 PyProof.Rows
/-! ### a list that a def is handed and changes -/
abbrev Well := Int × Int
abbrev wellL (c : Well) : List Int := [c.1, c.2]
abbrev wellV (c : Well) : List V := [.int c.1, .int c.2]
theorem del_ex {H : Hp} {l : Addr} : Ex (del H l) H := fun a o h => by
  by_cases e : a = l
  · subst e
    rw [del_same] at h
    cases h
  · rwa [del_ne e] at h
theorem del_keep {H : Hp} {l : Addr} {o : HO} (h : H l = some o) (m : isMut o = true) : Keep H (del H l) := fun a u ha hm => by
  by_cases e : a = l
  · subst e
    rw [h] at ha
    cases ha
    rw [m] at hm
    cases hm
  · rwa [del_ne e]
theorem upd_del_ex {H H2 : Hp} {l : Addr} {o : HO} (e : Ex (del H l) H2) (h : H2 l = some o) : Ex (upd H l o) H2 := fun a u ha => by
  by_cases z : a = l
  · subst z
    rw [upd_same] at ha
    cases ha
    exact h
  · rw [upd_ne z] at ha
    exact e a u (by rw [del_ne z]; exact ha)
def dwSp (K : Fg) {γ : Type} [Kp γ] (P : Well → List V → Hp → γ → Well → Prop) : Sp := fun vs H Q _ => ∃ l c us y c', vs = .ref l :: us ∧ H l = some (.lst (wellV c)) ∧ P c us (del H l) y c' ∧ ∀ v H', Ex (del H l) H' → H' l = some (.lst (wellV c')) → Enc.R K H' v y → Q v H'
def dsp1 (K : Fg) {γ : Type} [Kp γ] (pre : Well → Int → Prop) (f : Well → Int → γ × Well) : Sp := dwSp K fun c us _ y c' => ∃ n, us = [.int n] ∧ pre c n ∧ y = (f c n).1 ∧ c' = (f c n).2
def dsp2 (K : Fg) {α γ : Type} [Frz α] [Kp γ] (pre : Well → Int → Lst α → Prop) (f : Well → Int → Lst α → γ × Well) : Sp := dwSp K fun c us G y c' => ∃ n u x, us = [.int n, u] ∧ Enc.R K G u x ∧ pre c n x ∧ y = (f c n x).1 ∧ c' = (f c n x).2
section
variable {α β γ : Type} {K : Fg} {ta tb te : TE} {tt : TT} {Γ Γ' Γ1 Γ2 : Ctx} {i j : Int} {B F H H2 : Hp} {σ : L2.St}
theorem lstP_well {c : Well} {o : HO} (h : (lstP (wellL c)).P K H o) : o = .lst (wellV c) := by
  obtain ⟨vs, rfl, _, pv⟩ := h
  cases pv with
  | cons r t => cases t with
    | cons r2 t2 =>
      cases t2
      cases r
      cases r2
      rfl
theorem well_lstP (c : Well) : (lstP (wellL c)).P K H (.lst (wellV c)) := ⟨_, rfl, Nat.le_of_ble_eq_true rfl, .cons rfl (.cons rfl .nil)⟩
theorem Kn.own {n : Nat} {m : Option Addr} {l : Addr} {P P' : OwnP} {o' : HO} (k : Kn K B F H σ Γ) (hw : Γ[n]? = some (.ow m P)) (hl : σ[n]? = some (some (.ref l))) (e : Ex (del H l) H2) (h2 : H2 l = some o') (hp : ∀ G, P'.P K G o') : Kn K B F H2 σ (Γ.set n (.ow m P')) :=
  (k.mut hw hl (hp _)).mono (upd_del_ex e h2)
theorem ee_dsp1 [Kp γ] {pre : Well → Int → Prop} {f : Well → Int → γ × Well} {n : Nat} {m : Option Addr} {c : Well} (hw : Γ[n]? = some (.ow m (lstP (wellL c)))) (h : Ev K te Γ i) (hp : pre c i) :
    EvE K (tCall (dsp1 K pre f) [] E0 (tCons (tVar n) (tCons te tNil))) Γ (f c i).1 (Γ.set n (.ow m (lstP (wellL (f c i).2)))) := fun B F σ H k Q q => by
  obtain ⟨l, o, h1, _, _, _, hH, hP⟩ := k.at_ n _ hw
  have := lstP_well hP
  subst this
  refine ⟨.ref l, h1, h B F σ H k _ fun v H1 e r => ?_⟩
  exact ⟨l, c, [v], (f c i).1, (f c i).2, rfl, e l _ hH, ⟨i, by rw [show v = V.int i from r], hp, rfl, rfl⟩, fun u H2 e2 hl r2 => q u H2 ((k.mono e).own hw h1 e2 hl fun G => well_lstP _) r2⟩
theorem ee_dsp2 [Frz α] [Kp γ] {pre : Well → Int → Lst α → Prop} {f : Well → Int → Lst α → γ × Well} {n n' : Nat} {m m' : Option Addr} {c : Well} {x : List α} (hw : Γ[n]? = some (.ow m (lstP (wellL c)))) (h : Ev K te Γ i) (hx : Γ[n']? = some (.ow m' (lstP x))) (hn : n ≠ n') (hp : pre c i ⟨x⟩) :
    EvE K (tCall (dsp2 K pre f) [] E0 (tCons (tVar n) (tCons te (tCons (tVar n') tNil)))) Γ (f c i ⟨x⟩).1 (Γ.set n (.ow m (lstP (wellL (f c i ⟨x⟩).2)))) := fun B F σ H k Q q => by
  obtain ⟨l, o, h1, _, _, _, hH, hP⟩ := k.at_ n _ hw
  have := lstP_well hP
  subst this
  refine ⟨.ref l, h1, h B F σ H k _ fun v H1 e r => ?_⟩
  have k1 := k.mono e
  obtain ⟨l', o', g1, _, _, _, gH, gP⟩ := k1.at_ n' _ hx
  have ne : l' ≠ l := fun z => by
    subst z
    exact k.dis n n' l' m m' _ _ hn hw hx h1 g1
  have kp : Keep H1 (del H1 l) := del_keep (e l _ hH) rfl
  refine ⟨.ref l', g1, l, c, [v, .ref l'], (f c i ⟨x⟩).1, (f c i ⟨x⟩).2, rfl, e l _ hH, ⟨i, .ref l', ⟨x⟩, by rw [show v = V.int i from r], lstP_R (by rw [del_ne ne]; exact gH) (OwnP.keep _ kp gP), hp, rfl, rfl⟩, fun u H2 e2 hl r2 => q u H2 (k1.own hw h1 e2 hl fun G => well_lstP _) r2⟩
/-- a frame that was handed the list -/
theorem kn_startD {l : Addr} {c : Well} {us : List V} {N : List Str} (h : Ents K (del H l) us Γ) (hH : H l = some (.lst (wellV c))) (hl : us.length + 1 ≤ N.length) :
    Kn K (del H l) (fun _ => none) H (L2.start N (.ref l :: us)) (.ow (some l) (lstP (wellL c)) :: (Γ ++ anys (N.length - (us.length + 1)))) := by
  have k : Kn K (del H l) (fun _ => none) H (L2.start N (.ref l :: us)) (.any :: (Γ ++ anys (N.length - (us.length + 1)))) := (kn_start (Γ := .any :: Γ) (vs := .ref l :: us) (.cons trivial (fun _ _ z => nomatch z) h) hl).mono del_ex
  have no : ∀ (j : Nat) (m : Option Addr) (P : OwnP), (Γ ++ anys (N.length - (us.length + 1)))[j]? ≠ some (.ow m P) := fun j m P z => by
    by_cases hi : j < Γ.length
    · rw [List.getElem?_append_left hi] at z
      exact (h.at j _ z).1 _ _ rfl
    · rw [List.getElem?_append_right (by omega)] at z
      cases anys_at _ _ _ z
  refine ⟨k.len, k.exB, k.exF, fun j e q => ?_, fun a b l' m m' P P' hab q1 q2 => ?_⟩
  · cases j with
    | zero =>
      simp at q
      subst q
      exact ⟨l, _, by simp [L2.start], (fun m z => Option.some.inj z), del_same, rfl, hH, well_lstP c⟩
    | succ j => exact k.at_ (j + 1) e (by simpa using q)
  · cases a with
    | zero => cases b with
      | zero => exact absurd rfl hab
      | succ b => exact absurd (by simpa using q2) (no b m' P')
    | succ a => exact absurd (by simpa using q1) (no a m P)
end
section
variable {P : Program} {w : World} {K : Fg} {mg : Str → Option Value} {base : Heap} {f : Addr} {fd : FuncData} {name qual : Str} {st : Stmt} {N : List Str} {k : Nat}
variable {α γ : Type}
theorem go_runD {t : TS} {l : Addr} {c c' : Well} {us : List V} {H : Hp} {Γ : Ctx} [Kp γ] {y : γ} {Q : VK} (hl : us.length + 1 ≤ N.length) (hH : H l = some (.lst (wellV c))) (e : Ents K (del H l) us Γ)
    (r : Run K t (.ow (some l) (lstP (wellL c)) :: (Γ ++ anys (N.length - (us.length + 1)))) (.ret y [.ow (some l) (lstP (wellL c'))])) (q : ∀ v H', Ex (del H l) H' → H' l = some (.lst (wellV c')) → Enc.R K H' v y → Q v H') : t { nx := fun _ H' => Q .non H', rt := Q } (L2.start N (.ref l :: us)) H :=
  r (del H l) (fun _ => none) _ H _ (kn_startD e hH hl) fun v σ' H' k' r' _ => by
    obtain ⟨l2, o, _, h2, _, _, h5, h6⟩ := k'.at_ 0 _ rfl
    have := h2 l rfl
    subst this
    have := lstP_well h6
    subst this
    exact q v H' k'.exB h5 r'
theorem fnD1 [Kp γ] {p1 p2 : Str} {pre : Well → Int → Prop} {g : Well → Int → γ × Well} (F : FnP K name qual st f fd) (S : FnScope N [p1, p2] (defScope st)) (hN : 2 ≤ N.length)
    (hb : BodyOk P w K mg base N qual st f k fun t => ∀ l c n, pre c n → Run K t (.ow (some l) (lstP (wellL c)) :: ([.fz n] ++ anys (N.length - 2))) (.ret (g c n).1 [.ow (some l) (lstP (wellL (g c n).2))])) : FnOk P w K mg base CX0 (k + 1) f fd [p1, p2] (dsp1 K pre g) := by
  refine F.ok S (fun vs H Q E h => ?_) (fun cdv A outer s H vs Q E hr h => ?_)
  · obtain ⟨_, _, _, _, _, rfl, _, ⟨_, rfl, _⟩, _⟩ := h
    rfl
  · obtain ⟨t, h1, h2⟩ := hb cdv A outer s H E hr
    obtain ⟨l, c, us, y, c', rfl, hH, ⟨n, rfl, hp, rfl, rfl⟩, q⟩ := h
    exact ⟨t, PSs.nox h1, go_runD (Γ := [.fz n]) hN hH (.cons ⟨_, rfl, rfl⟩ (fun _ _ z => nomatch z) .nil) (h2 l c n hp) q⟩
theorem fnD2 [Frz α] [Kp γ] {p1 p2 p3 : Str} {pre : Well → Int → Lst α → Prop} {g : Well → Int → Lst α → γ × Well} (F : FnP K name qual st f fd) (S : FnScope N [p1, p2, p3] (defScope st)) (hN : 3 ≤ N.length)
    (hb : BodyOk P w K mg base N qual st f k fun t => ∀ l c n x, pre c n x → Run K t (.ow (some l) (lstP (wellL c)) :: ([.fz n, .bs x] ++ anys (N.length - 3))) (.ret (g c n x).1 [.ow (some l) (lstP (wellL (g c n x).2))])) : FnOk P w K mg base CX0 (k + 1) f fd [p1, p2, p3] (dsp2 K pre g) := by
  refine F.ok S (fun vs H Q E h => ?_) (fun cdv A outer s H vs Q E hr h => ?_)
  · obtain ⟨_, _, _, _, _, rfl, _, ⟨_, _, _, rfl, _⟩, _⟩ := h
    rfl
  · obtain ⟨t, h1, h2⟩ := hb cdv A outer s H E hr
    obtain ⟨l, c, us, y, c', rfl, hH, ⟨n, u, x, rfl, rx, hp, rfl, rfl⟩, q⟩ := h
    exact ⟨t, PSs.nox h1, go_runD (Γ := [.fz n, .bs x]) hN hH (.cons ⟨_, rfl, rfl⟩ (fun _ _ z => nomatch z) (.cons ⟨_, rfl, rx⟩ (fun _ _ z => nomatch z) .nil)) (h2 l c n x hp) q⟩
end
/-! ### what changes own objects on the way -/
section
variable {α β γ : Type} {K : Fg} {ta tb te : TE} {tt : TT} {Γ Γ' Γ1 Γ2 : Ctx} {i j : Int} {b : Bool}
def EvTE (K : Fg) (tt : TT) (Γ : Ctx) (b : Bool) (Γ' : Ctx) : Prop := ∀ B F σ H, Kn K B F H σ Γ → ∀ Q : Bool → Hp → Prop, (∀ H', Kn K B F H' σ Γ' → Q b H') → tt σ H Q
def EvFE (K : Fg) [Enc α] (wi : TI) (Γ : Ctx) (xs : List α) (Γ' : Ctx) : Prop := ∀ B F σ H, Kn K B F H σ Γ → ∀ R : It → Hp → Prop, (∀ J H' F', Kn K B F' H' σ Γ' → Ex F F' → ItOk K F' J xs → R J H') → wi σ H R
/-- a list made last -/
def EvNE (K : Fg) [Frz α] (te : TE) (Γ : Ctx) (xs : List α) (Γ' : Ctx) : Prop := ∀ B F σ H, Kn K B F H σ Γ → ∀ Q : VK, (∀ p H2 H', Kn K B F H2 σ Γ' → Ex H2 H' → H2 p = none → Enc.R K H' (.ref p) (Lst.mk xs) → Q (.ref p) H') → te σ H Q
theorem EvF.pure [Enc α] {wi : TI} {xs : List α} (h : EvF K wi Γ xs) : EvFE K wi Γ xs Γ := h
theorem EvE.is [Enc α] {x y : α} (h : EvE K te Γ x Γ') (e : x = y) : EvE K te Γ y Γ' := e ▸ h
theorem EvE.le [Enc α] {x : α} (h : EvE K te Γ x Γ') (l : Le Γ' Γ1) : EvE K te Γ x Γ1 := fun B F σ H k Q q => h B F σ H k Q fun v H' k' r => q v H' (k'.le l) r
theorem ee_add (ha : EvE K ta Γ i Γ1) (hb : EvE K tb Γ1 j Γ2) : EvE K (tOp (rAddU K) ta tb) Γ (i + j) Γ2 := fun B F σ H k Q q => ha B F σ H k _ fun v H1 k1 r1 => hb B F σ H1 k1 _ fun u H2 k2 r2 => .inl ⟨i, j, r1, r2, q _ H2 k2 rfl⟩
theorem ee_int (ha : EvE K ta Γ i Γ1) : EvE K (tCB rIntQ (tCons ta tNil)) Γ i Γ1 := fun B F σ H k Q q => ha B F σ H k _ fun v H1 k1 r1 => .inl ⟨i, by rw [show v = V.int i from r1], q _ H1 k1 rfl⟩
theorem ee_mod (ha : EvE K ta Γ i Γ1) (hb : Ev K tb Γ1 j) (hj : j ≠ 0) : EvE K (tOp (rI (fun _ j => j ≠ 0) fun i j => .int (i.fmod j)) ta tb) Γ (i.fmod j) Γ1 := fun B F σ H k Q q => ha B F σ H k _ fun v H1 k1 r1 => hb B F σ H1 k1 _ fun u H2 e2 r2 => ⟨i, j, r1, r2, hj, q _ H2 (k1.mono e2) rfl⟩
theorem te_eq (ha : EvE K ta Γ i Γ1) (hb : Ev K tb Γ1 j) : EvTE K (tTest (tOp (rEqU K) ta tb)) Γ (decide (i = j)) Γ1 := fun B F σ H k Q q => ha B F σ H k _ fun v H1 k1 r1 => hb B F σ H1 k1 _ fun u H2 e2 r2 =>
  .inl ⟨.int i, .int j, Dat.dp (α := Int) r1 |> dp_mono e2 _ _, Dat.dp (α := Int) r2, Dat.shaped (α := Int) i, Dat.shaped (α := Int) j, decide (i = j), (by rw [show PyData.eqv (.int i) (.int j) = decide (i = j) from Dat.eqv i j]), q H2 (k1.mono e2)⟩
theorem ee_tup1 (ha : EvE K ta Γ i Γ1) : EvE K (tTup (tCons ta tNil)) Γ [i] Γ1 := fun B F σ H k Q q => ha B F σ H k _ fun v H1 k1 r1 => ⟨Nat.le_of_ble_eq_true rfl, fun p hp => q _ _ (k1.mono (Evl.Ex.new hp)) ⟨p, [v], rfl, SqT.of upd_same, Nat.le_of_ble_eq_true rfl, .cons r1 .nil⟩⟩
theorem atI_at' [Inhabited α] {xs : List α} {i : Int} (h : 0 ≤ i ∧ i < (xs.length : Int)) : (ixN xs.length i).bind (fun n => xs[n]?) = some (at' xs i) := by
  rw [ixN_nat h]
  show xs[i.toNat]? = some (at' xs i)
  unfold at'
  rw [List.getElem?_eq_getElem (show i.toNat < xs.length by omega), List.getD, List.getElem?_eq_getElem (show i.toNat < xs.length by omega)]
  rfl
theorem ix_core [Frz α] {H : Hp} {xs : List α} {x : α} {v u : V} {Q : VK} (r1 : Enc.R K H v (Sq.mk xs)) (r2 : Enc.R K H u i) (hx : (ixN xs.length i).bind (fun n => xs[n]?) = some x) (q : ∀ w, Enc.R K H w x → Q w H) : rIxU K v u H Q := by
  obtain ⟨a1, vs, rfl, h2, h3, h4⟩ := r1
  have e1 := paired_len h4
  obtain ⟨n, hn, hx2⟩ := Option.bind_eq_some_iff.mp hx
  obtain ⟨w, hw, rw_⟩ := paired_get' h4 hx2
  have ha : atI vs i = some w := by
    unfold atI
    rw [ixN_len e1, hn]
    exact hw
  rcases h2 with h2 | h2
  · exact .inl ⟨a1, vs, i, w, rfl, r2, SqL.of h2, ha, q w rw_⟩
  · exact .inr ⟨a1, vs, i, w, rfl, r2, h2, ha, q w rw_⟩
theorem ee_atT [Frz α] [Inhabited α] {xs : List α} (ha : Ev K ta Γ xs) (hb : EvE K tb Γ i Γ1) (h : 0 ≤ i ∧ i < (xs.length : Int)) : EvE K (tOp (rIxU K) ta tb) Γ (at' xs i) Γ1 := fun B F σ H k Q q => ha B F σ H k _ fun v H1 e1 r1 => by
  have k1 := k.mono e1
  refine hb B (frz F H1) σ H1 k1.frz _ fun u H2 k2 r2 => ?_
  exact ix_core (sq_t (Enc.mono k2.exF (Kp.keep (frz_keep k1.exF) r1))) r2 (atI_at' h) fun w rw_ => q w H2 (k2.unframe frz_F) rw_
theorem frame_new {B F H H1 : Hp} {σ : L2.St} {p : Addr} {vs : List V} (k : Kn K B F H σ Γ) (e : Ex H H1) (hn : H p = none) (h2 : H1 p = some (.lst vs)) : Kn K B (upd (frz F H1) p (.lst vs)) H1 σ Γ ∧ frz F H1 p = none := by
  have k1 := k.mono e
  have hF : frz F H1 p = none := by
    unfold frz
    rw [Evl.fresh_back k.exF hn, h2]
    rfl
  refine ⟨k1.frame (fun a o z => ?_) fun l o hB hF2 hl hm hex => ?_, hF⟩
  · by_cases e : a = p
    · subst e
      rw [upd_same] at z
      cases z
      exact h2
    · rw [upd_ne e] at z
      exact frz_ex k1.exF a o z
  · obtain ⟨i, n, P, q1, q2⟩ := hex
    have ne : l ≠ p := fun z => by
      subst z
      obtain ⟨l2, o2, x1, _, _, _, x2, _⟩ := k.at_ i _ q1
      rw [q2] at x1
      cases x1
      rw [hn] at x2
      cases x2
    rw [upd_ne ne]
    exact frz_none hF2 hl hm
theorem ee_atL [Frz α] [Inhabited α] {xs : List α} (ha : EvN K ta Γ (Lst.mk xs)) (hb : EvE K tb Γ i Γ1) (h : 0 ≤ i ∧ i < (xs.length : Int)) : EvE K (tOp (rIxU K) ta tb) Γ (at' xs i) Γ1 := fun B F σ H k Q q => ha B F σ H k _ fun v H1 e1 r1 n1 => by
  obtain ⟨p, rfl, hn⟩ := n1
  obtain ⟨p', vs, e, h2, h3, h4⟩ := r1
  cases e
  obtain ⟨k2, hF⟩ := frame_new k e1 hn h2
  refine hb B _ σ H1 k2 _ fun u H2 k3 r2 => ?_
  have r3 : Enc.R K H2 (.ref p) (Lst.mk xs) := ⟨p, vs, rfl, k3.exF p _ upd_same, h3, paired_mono (fun _ _ r => Enc.mono k3.exF (Enc.mono (Evl.Ex.new hF) (Kp.keep (frz_keep (k.mono e1).exF) r))) h4⟩
  exact ix_core (sq_l r3) r2 (atI_at' h) fun w rw_ => q w H2 (k3.unframe (frz_F.trans (Evl.Ex.new hF))) rw_
theorem ee_tupL [Frz α] {xs : List α} (ha : EvE K ta Γ (Lst.mk xs) Γ1) : EvE K (tCB (rTupQ K) (tCons ta tNil)) Γ xs Γ1 := fun B F σ H k Q q => ha B F σ H k _ fun v H1 k1 r1 => by
  obtain ⟨p, vs, rfl, h2, h3, h4⟩ := r1
  exact ⟨p, vs, rfl, .inl ⟨SqL.of h2, fun a ha => q _ _ (k1.mono (Evl.Ex.new ha)) ⟨a, vs, rfl, SqT.of upd_same, h3, paired_mono (fun _ _ r => Enc.mono (Evl.Ex.new ha) r) h4⟩⟩⟩
/-- xs + what is made with draws, xs a list that is not drawn from -/
theorem ee_addL [Frz α] {xs ys : List α} {n : Nat} {m m' : Option Addr} (h0 : Γ[n]? = some (.ow m (lstP xs))) (hb : EvE K tb Γ (Lst.mk ys) Γ1) (h1 : Γ1[n]? = some (.ow m' (lstP xs))) (hl : xs.length + ys.length ≤ LIM) : EvNE K (tOp (rAddU K) (tVar n) tb) Γ (xs ++ ys) Γ1 := fun B F σ H k Q q => by
  obtain ⟨l, o, g1, _, _, _, _, _⟩ := k.at_ n _ h0
  refine ⟨.ref l, g1, hb B F σ H k _ fun u H2 k2 r2 => ?_⟩
  obtain ⟨l', o', g2, _, _, _, g5, g6⟩ := k2.at_ n _ h1
  rw [g1] at g2
  cases g2
  obtain ⟨a1, vs, e, h2, h3, h4⟩ := lstP_R g5 g6
  cases e
  obtain ⟨b1, us, rfl, h6, h7, h8⟩ := r2
  have e1 := paired_len h4
  have e2 := paired_len h8
  simp only at h3 h7 h4 h8 e1 e2
  exact .inr (.inr ⟨l, b1, vs, us, rfl, rfl, h2, h6, lim_le (by omega), fun p hp => q p H2 _ k2 (Evl.Ex.new hp) hp ⟨p, vs ++ us, rfl, upd_same, by rw [List.length_append]; exact hl, paired_append (paired_mono (fun _ _ r => Enc.mono (Evl.Ex.new hp) r) h4) (paired_mono (fun _ _ r => Enc.mono (Evl.Ex.new hp) r) h8)⟩⟩)
variable [Enc γ] {t u rest : TS} {o : Out γ} {y : γ} {Δ : Ctx}
theorem r_setLE [Frz α] {n : Nat} {xs : List α} (h : EvNE K te Γ xs Γ1) : Run K (tAsg te (gName n)) Γ (.next (Γ1.set n (.ow none (lstP xs))) : Out γ) := fun B F σ H D k p => h B F σ H k _ fun a H2 H1 k2 e hn r => by
  obtain ⟨q', vs, e1, h2, h3, h4⟩ := r
  cases e1
  exact p _ H1 (k2.setO e hn h2 ⟨vs, rfl, h3, h4⟩)
theorem r_ifE (h : EvTE K tt Γ b Γ1) (h1 : b = true → Run K t Γ1 o) (h2 : b = false → Run K u Γ1 o) : Run K (tIfS tt t u) Γ o := fun B F σ H D k p => h B F σ H k _ fun H1 k1 => by
  cases b with
  | true => exact h1 rfl B F σ H1 D k1 p
  | false => exact h2 rfl B F σ H1 D k1 p
/-- xs.pop(i) -/
theorem r_popE [Frz α] {n : Nat} {m m1 : Option Addr} {xs0 xs : List α} (h0 : Γ[n]? = some (.ow m1 (lstP xs0))) (h : EvE K te Γ i Γ1) (hn : Γ1[n]? = some (.ow m (lstP xs))) (hi : 0 ≤ i ∧ i < (xs.length : Int)) : Run K (tDrop (tBM K "list" rPopAt (tVar n) (tCons te tNil))) Γ (.next (Γ1.set n (.ow m (lstP (xs.eraseIdx i.toNat)))) : Out γ) := fun B F σ H D k p => by
  obtain ⟨l0, o0, g1, _, _, _, g4, g5⟩ := k.at_ n _ h0
  obtain ⟨us, rfl, _, _⟩ := g5
  refine ⟨.ref l0, g1, .inl ⟨rfl, us, SqL.of g4⟩, h B F σ H k _ fun v H1 k1 r => ?_⟩
  obtain ⟨l, o, h1, _, _, _, h4, h5⟩ := k1.at_ n _ hn
  rw [g1] at h1
  cases h1
  obtain ⟨vs, rfl, h6, h7⟩ := id h5
  have e := paired_len h7
  have hl : xs.length ≤ 100000 := h6
  have e2 : ixN vs.length i = some i.toNat := by
    unfold ixN
    rw [if_pos hi.1, if_pos (by rw [e]; exact hi.2)]
  have kp : Keep H1 (upd H1 l0 (.lst (vs.eraseIdx i.toNat))) := keep_upd h4 rfl
  refine ⟨l0, vs, i, i.toNat, vs[i.toNat]'(by omega), rfl, by rw [show v = V.int i from r], h4, by omega, by omega, (ixN_seq e2).1, List.getElem?_eq_getElem (by omega), p σ _ (k1.mut (P' := lstP (xs.eraseIdx i.toNat)) hn g1 ⟨vs.eraseIdx i.toNat, rfl, ?_, paired_erase _ (paired_mono (fun _ _ r => Kp.keep kp r) h7)⟩)⟩
  exact Nat.le_trans (List.length_eraseIdx_le _ _) h6
theorem efe_rng1 (h : EvE K ta Γ i Γ1) (hi : -100000 ≤ i ∧ i ≤ 100000) : EvFE K (iRng1 (tCons ta tNil)) Γ (rng 0 i.toNat) Γ1 := fun B F σ H k R q => h B F σ H k _ fun v H1 k1 r =>
  ⟨i, by rw [show v = V.int i from r], by omega, by omega, q _ _ _ k1 (Evl.Ex.refl F) it_rng⟩
theorem r_forE [Enc α] {g : TG} {js : List Nat} {wi : TI} {xs : List α} {S : List α → Ctx} {T : List α → α → Ctx} (h : EvFE K wi Γ xs Γ1) (h0 : Le Γ1 (S []))
    (hg : ∀ pre x, EvG K g js x (S pre) (T pre x))
    (hb : ∀ pre x post, xs = pre ++ x :: post → Run K t (T pre x) (.next (S (pre ++ [x])) : Out γ)) : Run K (tFor wi g t) Γ (.next (S xs) : Out γ) := fun B F σ H D k p => h B F σ H k _ fun J H1 F' k1 eF ok => by
  refine ⟨fun n m σ' H' => m = xs.length - n ∧ n ≤ xs.length ∧ Kn K B F' H' σ' (S (xs.take n)), ⟨xs.length, by simp, Nat.zero_le _, by simpa using k1.le h0⟩, ?_⟩
  rintro n m σ' H' ⟨rfl, hn, k2⟩
  by_cases hlt : n < xs.length
  · have hx := List.getElem?_eq_getElem hlt
    have hsplit : xs = xs.take n ++ xs[n] :: xs.drop (n + 1) := by simp
    have htake : xs.take (n + 1) = xs.take n ++ [xs[n]] := by simp
    refine .inr ⟨(ok.go n _ H' k2.exF hx).1, fun σ2 H2 => n + 1 ≤ xs.length ∧ Kn K B F' H2 σ2 (S (xs.take (n + 1))), fun σ2 H2 z => ⟨xs.length - (n + 1), by omega, rfl, z⟩, fun v H2 yl => ?_⟩
    obtain ⟨rfl, r⟩ := (ok.go n _ H' k2.exF hx).2 v H2 yl
    refine hg _ _ B F' σ' H2 v k2 r _ fun σ3 k3 _ _ => ?_
    exact hb _ _ _ hsplit B F' σ3 H2 _ k3 fun σ4 H4 k4 => ⟨hlt, by rw [htake]; exact k4⟩
  · have hn2 : n = xs.length := by omega
    subst hn2
    rw [List.take_length] at k2
    exact .inl ⟨ok.stop H' k2.exF, p σ' H' (k2.unframe eF)⟩
end
/-! ### a comprehension whose test draws -/
section
variable {α β : Type} {K : Fg} {te : TE} {tt : TT} {Γ : Ctx}
theorem Kn.bump {B F H : Hp} {σ : L2.St} {D : Addr} {o o' : HO} (k : Kn K B (upd F D o) H σ Γ) (hB : B D = none) (m : isMut o = true) : Kn K B (upd F D o') (upd H D o') σ Γ := by
  have hD : H D = some o := k.exF D o upd_same
  have kp : Keep H (upd H D o') := keep_upd hD m
  refine ⟨k.len, Evl.Ex.mut k.exB hB, fun a u z => ?_, fun i e q => ?_, k.dis⟩
  · by_cases ne : a = D
    · subst ne
      rw [upd_same] at z ⊢
      exact z
    · rw [upd_ne ne] at z ⊢
      exact k.exF a u (by rw [upd_ne ne]; exact z)
  · have z := k.at_ i e q
    cases e with
    | any => trivial
    | fz x =>
      obtain ⟨v, h1, h2⟩ := z
      exact ⟨v, h1, Kp.keep kp h2⟩
    | bs x => exact z
    | ow n P =>
      obtain ⟨l, u, h1, hn, h2, h3, h4, h5⟩ := z
      have ne : l ≠ D := fun z => by
        subst z
        rw [upd_same] at h3
        cases h3
      exact ⟨l, u, h1, hn, h2, (by rw [upd_ne ne] at h3 ⊢; exact h3), (by rw [upd_ne ne]; exact h4), P.keep kp h5⟩
/-- another frame of slots, alike but for some -/
theorem Kn.slots {B F H : Hp} {σ σ' : L2.St} {vs : List Nat} (k : Kn K B F H σ' Γ) (hl : σ'.length = σ.length) (hs : ∀ j : Nat, j ∉ vs → σ'[j]? = σ[j]?) : Kn K B F H σ (wipeC Γ vs) := by
  have an : ∀ (vs : List Nat) (j : Nat) (e : Ent), (wipeC Γ vs)[j]? = some e → e = .any ∨ (j ∉ vs ∧ Γ[j]? = some e) := by
    intro vs
    induction vs with
    | nil => intro j e h; exact .inr ⟨by simp, h⟩
    | cons v vs ih =>
      intro j e h
      rcases get_set_cases h with ⟨rfl, _, z⟩ | ⟨ne, h⟩
      · exact .inl z
      · rcases ih j e h with z | ⟨z1, z2⟩
        · exact .inl z
        · exact .inr ⟨by simp [z1, Ne.symm ne], z2⟩
  have ln : ∀ vs : List Nat, (wipeC Γ vs).length = Γ.length := by
    intro vs
    induction vs with
    | nil => rfl
    | cons v vs ih => unfold wipeC; rw [List.length_set, ih]
  refine ⟨by rw [ln, ← hl]; exact k.len, k.exB, k.exF, fun j e q => ?_, fun a b l n n' P P' hab q1 q2 s1 s2 => ?_⟩
  · rcases an vs j e q with z | ⟨z1, z2⟩
    · subst z
      trivial
    · rw [← hs j z1]
      exact k.at_ j e z2
  · rcases an vs a _ q1 with z | ⟨z1, z2⟩
    · cases z
    · rcases an vs b _ q2 with y | ⟨y1, y2⟩
      · cases y
      · rw [← hs a z1] at s1
        rw [← hs b y1] at s2
        exact k.dis a b l n n' P P' hab z2 y2 s1 s2
theorem ee_lc [Enc α] [Frz β] {wi : TI} {g : TG} {js vs : List Nat} {xs : List α} {S : List α → Ctx} {T T2 : List α → α → Ctx} {pk : List α → α → Bool} {f : α → β} {acc : List α → List β} (h : EvFE K wi Γ xs (S [])) (hlen : xs.length ≤ LIM)
    (hg : ∀ pre x, EvG K g js x (wipeC (S pre) vs) (T pre x)) (ht : ∀ pre x post, xs = pre ++ x :: post → EvTE K tt (T pre x) (pk pre x) (T2 pre x))
    (he : ∀ pre x, Ev K te (T2 pre x) (f x)) (hs : ∀ pre x, Le (wipeC (T2 pre x) vs) (S (pre ++ [x])))
    (ha0 : acc [] = []) (ha : ∀ pre x, acc (pre ++ [x]) = acc pre ++ if pk pre x = true then [f x] else []) (hj : ∀ k ∈ js, k ∈ vs := by decide) : EvE K (tLc wi g tt te vs) Γ (Lst.mk (acc xs)) (S xs) := fun B F σ H k Q q =>
  h B F σ H k _ fun J H1 F' k1 eF ok D hD => by
  have hB : B D = none := Evl.fresh_back k1.exB hD
  have hF : F' D = none := Evl.fresh_back k1.exF hD
  have al : ∀ n : Nat, (acc (xs.take n)).length ≤ n := fun n => by
    induction n with
    | zero => simp [ha0]
    | succ n ih =>
      by_cases hn : n < xs.length
      · have htake : xs.take (n + 1) = xs.take n ++ [xs[n]] := by simp
        rw [htake, ha, List.length_append]
        split <;> simp <;> omega
      · rw [List.take_of_length_le (by omega)] at ih ⊢
        omega
  refine ⟨fun n m H' => m = xs.length - n ∧ n ≤ xs.length ∧ ∃ us, Kn K B (upd F' D (.lst us)) H' σ (S (xs.take n)) ∧ Paired (Enc.R K H') us (acc (xs.take n)), ⟨xs.length, by simp, Nat.zero_le _, [], ?_, by simp [ha0]; exact .nil⟩, ?_⟩
  · rw [List.take_zero]
    refine (k1.mono (Evl.Ex.new hD)).frame (fun a o z => ?_) fun l o hBl hFl hl hm hex => ?_
    · by_cases e : a = D
      · subst e
        rw [upd_same] at z ⊢
        exact z
      · rw [upd_ne e] at z ⊢
        exact k1.exF a o z
    · obtain ⟨i, n, P, q1, q2⟩ := hex
      have ne : l ≠ D := fun z => by
        subst z
        obtain ⟨l2, o2, x1, _, _, _, x2, _⟩ := k1.at_ i _ q1
        rw [q2] at x1
        cases x1
        rw [hD] at x2
        cases x2
      rw [upd_ne ne]
      exact hFl
  rintro n m H' ⟨rfl, hn, us, k2, pu⟩
  by_cases hlt : n < xs.length
  · have hx := List.getElem?_eq_getElem hlt
    have hsplit : xs = xs.take n ++ xs[n] :: xs.drop (n + 1) := by simp
    have htake : xs.take (n + 1) = xs.take n ++ [xs[n]] := by simp
    have exF' : Ex F' H' := (Evl.Ex.new hF).trans k2.exF
    refine .inr ⟨(ok.go n _ H' exF' hx).1, fun H'' => n + 1 ≤ xs.length ∧ ∃ us, Kn K B (upd F' D (.lst us)) H'' σ (S (xs.take (n + 1))) ∧ Paired (Enc.R K H'') us (acc (xs.take (n + 1))), fun H2 z => ⟨xs.length - (n + 1), by omega, rfl, z⟩, fun v H2 yl => ?_⟩
    obtain ⟨rfl, r⟩ := (ok.go n _ H' exF' hx).2 v H2 yl
    refine hg (xs.take n) xs[n] B _ _ H2 v (k2.wipe vs) r _ fun σ' k3 hl hsl => ⟨wipe_same (js := js) (by rw [hl, wipe_length]) hsl hj, ?_⟩
    have kf := k3.frz
    refine ht _ _ _ hsplit B _ σ' H2 kf _ fun H3 k4 => ?_
    have pu3 : Paired (Enc.R K H3) us (acc (xs.take n)) := paired_mono (fun _ _ r => Enc.mono k4.exF (Kp.keep (frz_keep k3.exF) r)) pu
    have k5 := k4.unframe frz_F
    have back : ∀ {H4 : Hp}, Kn K B (upd F' D (.lst us)) H4 σ' (T2 (xs.take n) xs[n]) → Kn K B (upd F' D (.lst us)) H4 σ (S (xs.take (n + 1))) := fun {H4} z => by
      rw [htake]
      refine (z.slots (vs := vs) (by rw [hl, wipe_length]) fun j hjn => ?_).le (hs _ _)
      rw [hsl j fun y => hjn (hj j y), wipe_at, if_neg fun y => hjn y.1]
    cases hp : pk (xs.take n) xs[n] with
    | true =>
      show te σ' H3 _
      refine he _ _ B _ σ' H3 k5 _ fun w H4 e4 r4 => ?_
      have k6 := k5.mono e4
      have hD4 : H4 D = some (.lst us) := k6.exF D _ upd_same
      have := paired_len pu
      have := al n
      refine ⟨us, hD4, lim_lt (show us.length ≤ LIM by omega), hlt, us ++ [w], (back k6).bump hB rfl, ?_⟩
      rw [htake, ha, hp, if_pos rfl]
      have kp : Keep H4 (upd H4 D (.lst (us ++ [w]))) := keep_upd hD4 rfl
      exact paired_append (paired_mono (fun _ _ r => Kp.keep ((keep_ex e4).trans kp) r) pu3) (.cons (Kp.keep kp r4) .nil)
    | false =>
      show _ ∧ _
      refine ⟨hlt, us, back k5, ?_⟩
      rw [htake, ha, hp, if_neg (by simp), List.append_nil]
      exact pu3
  · have hi2 : n = xs.length := by omega
    subst hi2
    have al' := al xs.length
    rw [List.take_length] at pu k2 al'
    exact .inl ⟨ok.stop H' ((Evl.Ex.new hF).trans k2.exF), q _ H' (k2.unframe (eF.trans (Evl.Ex.new hF))) ⟨D, us, rfl, k2.exF D _ upd_same, Nat.le_trans al' hlen, pu⟩⟩
end
end Dy
/-! ## Sp6 -/
namespace Mi
open Dy
/-! ### what the law draws -/
def drawW (c : Well) (n : Int) : Int × Well :=
  if n < 2 ∨ c.2 = 0 then (0, c) else if 16777216 < c.1 then (c.1.fmod n, (c.1 / n, c.2))
  else (((1 + (c.2 * 46021 + c.1 + 23333).fmod 2147483497) / 1409).fmod n, (c.1, 1 + (c.2 * 46021 + c.1 + 23333).fmod 2147483497))
def WellOk (c : Well) : Prop := 0 ≤ c.1 ∧ 0 ≤ c.2 ∧ c.2 ≤ 2147483497
def poolStep (p x : Int) : Int := p * 120011 + 2 * (if x < 0 then -x else x) + (if decide (x < 0) = true then (1 : Int) else 0)
def poolW (xs : List Int) : Int := xs.foldl poolStep 0
def wellW (xs : List Int) : Well := if xs.length = 0 then (0, 0) else (poolW xs, 1 + (poolW xs + 5003 * (xs.length : Int)).fmod 2147483497)
def ScriptOk (xs : List Int) : Prop := xs.length ≤ 63 ∧ ∀ x ∈ xs, x.natAbs.log2 ≤ 2000000
def pickStep {α : Type} (n : Int) (s : Well × List α) (x : α) : Well × List α := ((drawW s.1 n).2, s.2 ++ if decide ((drawW s.1 n).1 = 1) = true then [x] else [])
def pickW {α : Type} (n : Int) (c : Well) (xs : List α) : Well × List α := xs.foldl (pickStep n) (c, [])
def kindLots (m k : Int) : List Lot := if k ∈ ([0, 1, 7] : List Int) then (rng 0 m.toNat).map fun h => [h] else [[]]
def fA (m k : Int) (s : Well × List Lot) : Well × List Lot := if k = 1 then ((drawW s.1 m).2, s.2.set (drawW s.1 m).1.toNat []) else s
def subStep (m : Int) (s : Well × List Lot) (_ : Int) : Well × List Lot := ((pickW 2 s.1 (rng 0 m.toNat)).1, s.2 ++ [(pickW 2 s.1 (rng 0 m.toNat)).2])
def fB (m k : Int) (s : Well × List Lot) : Well × List Lot := if k = 2 ∨ k = 3 then (rng 0 (1 + (drawW s.1 3).1).toNat).foldl (subStep m) ((drawW s.1 3).2, s.2) else s
def fC (m k : Int) (s : Well × List Lot) : Well × List Lot := if k = 3 then (s.1, s.2 ++ [others m (lastD s.2)]) else s
def fD (m k : Int) (s : Well × List Lot) : Well × List Lot := if k = 4 then ((drawW s.1 m).2, (lots m).filter fun l => decide ((l.length : Int) = (drawW s.1 m).1)) else s
def fE (m k : Int) (s : Well × List Lot) : Well × List Lot := if k = 5 then ((drawW s.1 m).2, s.2 ++ [[(drawW s.1 m).1]]) else s
def fearsS (c : Well) (m : Int) : Well × List Lot := fE m (drawW c 8).1 (fD m (drawW c 8).1 (fC m (drawW c 8).1 (fB m (drawW c 8).1 (fA m (drawW c 8).1 ((drawW c 8).2, kindLots m (drawW c 8).1)))))
def fearsW (c : Well) (m : Int) : List Lot × Well := (lawGreatest (fearsS c m).2, (fearsS c m).1)
def orderStep (m : Int) (s : Well × List Int) (k : Int) : Well × List Int :=
  ((drawW s.1 (m - k)).2, cutX s.2 none (some k) ++ [at' s.2 (k + (drawW s.1 (m - k)).1)] ++ cutX s.2 (some k) (some (k + (drawW s.1 (m - k)).1)) ++ cutX s.2 (some (k + (drawW s.1 (m - k)).1 + 1)) none)
def orderW (m : Int) (c : Well) : Well × List Int := (rng 0 m.toNat).foldl (orderStep m) (c, rng 0 m.toNat)
def pairs0 (m : Int) (o : List Int) : List Wire := (rng 0 (m - 1).toNat).map fun k => (at' o k, at' o (k + 1))
def gA (k : Int) (o : List Int) (ps : List Wire) : List Wire := if k = 1 then (cutX o (some 1) none).map fun h => (at' o 0, h) else ps
def gB (k : Int) (o : List Int) (ps : List Wire) : List Wire := if k = 2 ∨ k = 5 then ps ++ [(at' o 0, lastD o)] else ps
def gC (m k : Int) (s : Well × List Wire) : Well × List Wire := if k = 4 then ((drawW s.1 (m - 1)).2, s.2.eraseIdx (drawW s.1 (m - 1)).1.toNat) else s
def gD (m k : Int) (s : Well × List Wire) : Well × List Wire := if k = 3 ∨ k = 5 then ((pickW 3 s.1 (mesh m)).1, s.2 ++ (pickW 3 s.1 (mesh m)).2) else s
def gE (k : Int) (ps : List Wire) : List Wire := if k = 3 then cutX ps (some 1) none else ps
def ord2 (p : Wire) : Wire := (min p.1 p.2, max p.1 p.2)
def netO (c : Well) (m : Int) : List Int := (orderW m c).2
def netK (c : Well) (m : Int) : Int := (drawW (orderW m c).1 6).1
def netS (c : Well) (m : Int) : Well × List Wire := gD m (netK c m) (gC m (netK c m) ((drawW (orderW m c).1 6).2, gB (netK c m) (netO c m) (gA (netK c m) (netO c m) (pairs0 m (netO c m)))))
def netW (c : Well) (m : Int) : List Wire × Well := (ssortW ((gE (netK c m) (netS c m).2).map ord2), (netS c m).1)
def restW (ws : List Wire) (a : Int) : List Wire := cutX ws none (some a) ++ cutX ws (some (a + 1)) none
def thinStep (m : Int) (fe : List Lot) (s : Well × List Wire) (t : Int) : Well × List Wire :=
  ((drawW s.1 (s.2.length : Int)).2, if divided m (restW s.2 ((t + (drawW s.1 (s.2.length : Int)).1).fmod (s.2.length : Int))) fe = [] then restW s.2 ((t + (drawW s.1 (s.2.length : Int)).1).fmod (s.2.length : Int)) else s.2)
def thinS (c : Well) (m : Int) (fe : List Lot) (ts : List Int) : Well × List Wire := ts.foldl (thinStep m fe) (c, mesh m)
def thinTs (c : Well) (m : Int) : List Int := rng 0 (2 + (drawW c (12 - 2 * m)).1).toNat
def thinW (c : Well) (m : Int) (fe : Lst Lot) : List Wire × Well := ((thinS (drawW c (12 - 2 * m)).2 m fe.l (thinTs c m)).2, (thinS (drawW c (12 - 2 * m)).2 m fe.l (thinTs c m)).1)
end Mi
namespace Dy
open PySem L2 PyProof.Rows Mi
/-- the script: a list of ints, ours or the head's -/
structure Scr where
  l : List Int
instance : Enc Scr where
  R K H v xs := ∃ a, v = .ref a ∧ SqL K H a (xs.l.map V.int) ∧ xs.l.length ≤ LIM
  mono e := fun ⟨a, h1, h2, h3⟩ => ⟨a, h1, Evl.ex_l e h2, h3⟩
  nw _ _ := True
  nwm _ h := h
instance : Par Scr where
  ent x := .bs x
  ok r := ⟨_, rfl, r⟩
  noow _ _ _ z := nomatch z
section
variable {K : Fg} {Γ : Ctx}
theorem it_scr {G : Hp} {p : Addr} {xs : List Int} (h : SqL K G p (xs.map V.int)) : ItOk K G (Itl K p) xs where
  go n x H e hx := by
    have hv : (xs.map V.int)[n]? = some (V.int x) := by rw [List.getElem?_map, hx]; rfl
    refine ⟨⟨_, _, Evl.ex_l e h, hv⟩, fun u H' y => ?_⟩
    obtain ⟨e1, e2⟩ := y
    have e3 := e2 _ (Evl.ex_l e h)
    rw [hv] at e3
    cases e3
    exact ⟨e1, rfl⟩
  stop H e := ⟨_, Evl.ex_l e h, by rw [List.length_map]; exact Nat.le_refl _⟩
/-- a frame that knows what the base knows -/
theorem frame_base {B F H : Hp} {σ : L2.St} (k : Kn K B F H σ Γ) : ∃ F2, Ex B F2 ∧ Ex F F2 ∧ Kn K B F2 H σ Γ := by
  have some_ : ∀ {a : Addr} {o : HO}, B a = some o → (match B a with | some o => some o | none => F a) = some o := fun z => by rw [z]
  have none_ : ∀ {a : Addr}, B a = none → (match B a with | some o => some o | none => F a) = F a := fun z => by rw [z]
  refine ⟨fun a => match B a with | some o => some o | none => F a, fun a o z => some_ z, fun a o z => ?_, k.frame (fun a o z => ?_) fun l o hB hF _ _ _ => (none_ hB).trans hF⟩
  · cases hb : B a with
    | none => exact (none_ hb).trans z
    | some u => exact (some_ hb).trans ((k.exB a _ hb).symm.trans (k.exF a _ z))
  · cases hb : B a with
    | none => exact k.exF a o ((none_ hb).symm.trans z)
    | some u => exact k.exB a o (hb.trans ((some_ hb).symm.trans z))
theorem ef_scr {n : Nat} {x : Scr} (h : Γ[n]? = some (.bs x)) : EvF K (iSeq K (tVar n)) Γ x.l := fun B F σ H k R q => by
  obtain ⟨v, h1, p, rfl, h2, _⟩ := k.at_ n _ h
  obtain ⟨F2, e1, e2, k2⟩ := frame_base k
  exact ⟨_, h1, p, rfl, .inl ⟨⟨_, Evl.ex_l k.exB h2⟩, q _ _ F2 k2 e2 (it_scr (Evl.ex_l e1 h2))⟩⟩
theorem ev_lenS {te : TE} {x : Scr} (ha : Ev K te Γ x) : Ev K (tCB (rLenQ K) (tCons te tNil)) Γ ((x.l.length : Nat) : Int) := ev_call1 ha fun v H Q r q => by
  obtain ⟨p, rfl, h2, _⟩ := r
  refine ⟨p, _, rfl, .inl h2, q _ H (Evl.Ex.refl H) ?_⟩
  rw [List.length_map]
  rfl
end
section
variable (K : Fg)
def sp__law_well : Sp := sp1 K (fun (xs : Scr) => ScriptOk xs.l) (fun xs => Lst.mk (wellL (wellW xs.l)))
def sp__law_draw : Sp := dsp1 K (fun c n => WellOk c ∧ n ≤ 1000) drawW
def Ma (c : Well) (m : Int) : Prop := WellOk c ∧ 2 ≤ m ∧ m ≤ 6
def sp__law_fears : Sp := dsp1 K Ma fearsW
def sp__law_net : Sp := dsp1 K Ma netW
def sp__law_thin : Sp := dsp2 K (fun c m (fe : Lst Lot) => Ma c m ∧ [] ∈ fe.l ∧ fe.l.length ≤ 1000) thinW
def sp_law : Sp := sp1 K (fun (xs : Scr) => ScriptOk xs.l) (fun _ => true)
end
end Dy
/-! ## Tm9 -/
namespace Dy
open PySem L2 PyProof.Rows
section
variable {P : Program} {w : World} {K : Fg} {mg : Str → Option Value} {base : Heap} {f : Addr}

def rd__law_well (P : Program) (w : World) (K : Fg) : TS := (tSeq (tAsg (tC (.int 0)) (gName 1)) (tSeq (tFor (iSeq K (tVar 0)) (gName 2) (tAsg (tOp (rAddU K) (tOp (rAddU K) (tOp (rMulU K) (tVar 1) (tC (.int 120011))) (tOp (rMulU K) (tC (.int 2)) (tCB (rAbsQ) (tCons (tCB (rIntQ) (tCons (tVar 2) tNil)) tNil)))) (tCB (rIntQ) (tCons (tOp (rI0 fun i j => V.bl (decide (i < j))) (tVar 2) (tC (.int 0))) tNil))) (gName 1))) (tSeq (tIfS (tTest (tOp (rEqU K) (tCB (rLenQ K) (tCons (tVar 0) tNil)) (tC (.int 0)))) (tRet (tLst (tCons (tC (.int 0)) (tCons (tC (.int 0)) tNil)))) tNext) (tRet (tLst (tCons (tVar 1) (tCons (tOp (rAddU K) (tC (.int 1)) (tOp (rI (fun _ j => j ≠ 0) fun i j => V.int (i.fmod j)) (tCB (rIntQ) (tCons (tOp (rAddU K) (tVar 1) (tOp (rMulU K) (tC (.int 5003)) (tCB (rLenQ K) (tCons (tVar 0) tNil)))) tNil)) (tC (.int 2147483497)))) tNil)))))))
theorem sc__law_well : FnScope ["_law_script", "_law_pool", "_law_cell"] ["_law_script"] (defScope Hd.s__law_well) := ⟨rfl, rfl, rfl, by decide +kernel, rfl, by decide +kernel, by decide +kernel⟩
theorem tm__law_well (T : Hd.Tx K mg)  : BodyOk P w K mg base ["_law_script", "_law_pool", "_law_cell"] "_law_well" Hd.s__law_well f 0 (fun t => t = rd__law_well P w K) :=
  fun cdv A outer s H E hr => ⟨_, (pss_cons (ps_set (i := 1) sc__law_well.nd rfl (Or.inl rfl) pe_int) (pss_cons (ps_for PassesOwn.never rfl (pi_seq (pv 0)) (pg_name (i := 2) sc__law_well.nd rfl (Or.inl rfl)) (pss_one (ps_set (i := 1) sc__law_well.nd rfl (Or.inl rfl) (pe_op op_addU (pe_op op_addU (pe_op op_mulU (pv 1) pe_int) (pe_op op_mulU pe_int (pe_callB call_absQ (by rfl) T.b_abs (by decide +kernel) (pa_cons (pe_callTy call_intQ (by rfl) T.b_int (by decide +kernel) (pa_cons (pv 2) pa_nil)) pa_nil)))) (pe_callTy call_intQ (by rfl) T.b_int (by decide +kernel) (pa_cons (pe_cmpR op_lt (pv 2) pe_int (nomark _)) pa_nil)))))) (pss_cons (ps_if (pt_cmpR (op_eqU hr.units) (pe_callB call_lenQ (by rfl) T.b_len PySem.boot_len (pa_cons (pv 0) pa_nil)) pe_int (nomark _)) (pss_one (ps_ret (pe_lst (pa_cons pe_int (pa_cons pe_int pa_nil))))) pss_nil) (pss_one (ps_ret (pe_lst (pa_cons (pv 1) (pa_cons (pe_op op_addU pe_int (pe_op op_modN (pe_callTy call_intQ (by rfl) T.b_int (by decide +kernel) (pa_cons (pe_op op_addU (pv 1) (pe_op op_mulU pe_int (pe_callB call_lenQ (by rfl) T.b_len PySem.boot_len (pa_cons (pv 0) pa_nil)))) pa_nil)) pe_int)) pa_nil)))))))), rfl⟩
def rd__law_draw (P : Program) (w : World) (K : Fg) : TS := (tSeq (tIfS (tOr (tTest (tOp (rI0 fun i j => V.bl (decide (i < j))) (tVar 1) (tC (.int 2)))) (tTest (tOp (rEqU K) (tOp (rIxU K) (tVar 0) (tC (.int 1))) (tC (.int 0))))) (tRet (tC (.int 0))) tNext) (tSeq (tIfS (tTest (tOp (rI0 fun i j => V.bl (decide (j < i))) (tOp (rIxU K) (tVar 0) (tC (.int 0))) (tC (.int 16777216)))) (tSeq (tAsg (tOp (rI (fun _ j => j ≠ 0) fun i j => V.int (i.fmod j)) (tCB (rIntQ) (tCons (tOp (rIxU K) (tVar 0) (tC (.int 0))) tNil)) (tVar 1)) (gName 2)) (tSeq (tAsg (tOp (rI CDivW fun i j => V.int (i / j)) (tOp (rIxU K) (tVar 0) (tC (.int 0))) (tVar 1)) (gSub (tVar 0) (tC (.int 0)) rSetL)) (tRet (tVar 2)))) tNext) (tSeq (tAsg (tOp (rAddU K) (tC (.int 1)) (tOp (rI (fun _ j => j ≠ 0) fun i j => V.int (i.fmod j)) (tCB (rIntQ) (tCons (tOp (rAddU K) (tOp (rAddU K) (tOp (rMulU K) (tOp (rIxU K) (tVar 0) (tC (.int 1))) (tC (.int 46021))) (tOp (rIxU K) (tVar 0) (tC (.int 0)))) (tC (.int 23333))) tNil)) (tC (.int 2147483497)))) (gSub (tVar 0) (tC (.int 1)) rSetL)) (tRet (tOp (rI (fun _ j => j ≠ 0) fun i j => V.int (i.fmod j)) (tCB (rIntQ) (tCons (tOp (rI CDivW fun i j => V.int (i / j)) (tOp (rIxU K) (tVar 0) (tC (.int 1))) (tC (.int 1409))) tNil)) (tVar 1))))))
theorem sc__law_draw : FnScope ["_law_well_here", "_law_many", "_law_told"] ["_law_well_here", "_law_many"] (defScope Hd.s__law_draw) := ⟨rfl, rfl, rfl, by decide +kernel, rfl, by decide +kernel, by decide +kernel⟩
theorem tm__law_draw (T : Hd.Tx K mg)  : BodyOk P w K mg base ["_law_well_here", "_law_many", "_law_told"] "_law_draw" Hd.s__law_draw f 0 (fun t => t = rd__law_draw P w K) :=
  fun cdv A outer s H E hr => ⟨_, (pss_cons (ps_if (PW.pt (pw_or (pt_cmpR op_lt (pv 1) pe_int (nomark _)) (pw_or1 (pt_cmpR (op_eqU hr.units) (pe_ix ix_U (pv 0) pe_int (fun _ _ => rfl)) pe_int (nomark _))))) (pss_one (ps_ret pe_int)) pss_nil) (pss_cons (ps_if (pt_cmpR op_gt (pe_ix ix_U (pv 0) pe_int (fun _ _ => rfl)) pe_int (nomark _)) (pss_cons (ps_set (i := 2) sc__law_draw.nd rfl (Or.inl rfl) (pe_op op_modN (pe_callTy call_intQ (by rfl) T.b_int (by decide +kernel) (pa_cons (pe_ix ix_U (pv 0) pe_int (fun _ _ => rfl)) pa_nil)) (pv 1))) (pss_cons (ps_asg (pe_op op_fdivW (pe_ix ix_U (pv 0) pe_int (fun _ _ => rfl)) (pv 1)) (pg_sub (pv 0) pe_int set_list)) (pss_one (ps_ret (pv 2))))) pss_nil) (pss_cons (ps_asg (pe_op op_addU pe_int (pe_op op_modN (pe_callTy call_intQ (by rfl) T.b_int (by decide +kernel) (pa_cons (pe_op op_addU (pe_op op_addU (pe_op op_mulU (pe_ix ix_U (pv 0) pe_int (fun _ _ => rfl)) pe_int) (pe_ix ix_U (pv 0) pe_int (fun _ _ => rfl))) pe_int) pa_nil)) pe_int)) (pg_sub (pv 0) pe_int set_list)) (pss_one (ps_ret (pe_op op_modN (pe_callTy call_intQ (by rfl) T.b_int (by decide +kernel) (pa_cons (pe_op op_fdivW (pe_ix ix_U (pv 0) pe_int (fun _ _ => rfl)) pe_int) pa_nil)) (pv 1))))))), rfl⟩
def rd__law_fears (P : Program) (w : World) (K : Fg) : TS := (tSeq (tAsg (tCall (sp__law_draw K) [] E0 (tCons (tVar 0) (tCons (tC (.int 8)) tNil))) (gName 2)) (tSeq (tAsg (tLst (tCons (tTup tNil) tNil)) (gName 3)) (tSeq (tIfS (tTest (tOp (rInU K false) (tVar 2) (tTup (tCons (tC (.int 0)) (tCons (tC (.int 1)) (tCons (tC (.int 7)) tNil)))))) (tAsg (tLc (iRng1 (tCons (tVar 1) tNil)) (gName 6) tYes (tTup (tCons (tVar 6) tNil)) [6]) (gName 3)) tNext) (tSeq (tIfS (tTest (tOp (rEqU K) (tVar 2) (tC (.int 1)))) (tAsg (tTup tNil) (gSub (tVar 3) (tCall (sp__law_draw K) [] E0 (tCons (tVar 0) (tCons (tVar 1) tNil))) rSetL)) tNext) (tSeq (tIfS (tOr (tTest (tOp (rEqU K) (tVar 2) (tC (.int 2)))) (tTest (tOp (rEqU K) (tVar 2) (tC (.int 3))))) (tFor (iRng1 (tCons (tOp (rAddU K) (tC (.int 1)) (tCall (sp__law_draw K) [] E0 (tCons (tVar 0) (tCons (tC (.int 3)) tNil)))) tNil)) (gName 4) (tDrop (tBM K "list" rAppend (tVar 3) (tCons (tCB (rTupQ K) (tCons (tLc (iRng1 (tCons (tVar 1) tNil)) (gName 6) (tTest (tOp (rEqU K) (tCall (sp__law_draw K) [] E0 (tCons (tVar 0) (tCons (tC (.int 2)) tNil))) (tC (.int 1)))) (tVar 6) [6]) tNil)) tNil)))) tNext) (tSeq (tIfS (tTest (tOp (rEqU K) (tVar 2) (tC (.int 3)))) (tDrop (tBM K "list" rAppend (tVar 3) (tCons (tCall (sp__law_others K) [] E0 (tCons (tVar 1) (tCons (tOp (rIxU K) (tVar 3) (tUn (rU fun i => V.int (-i)) (tC (.int 1)))) tNil))) tNil))) tNext) (tSeq (tIfS (tTest (tOp (rEqU K) (tVar 2) (tC (.int 4)))) (tSeq (tAsg (tCall (sp__law_draw K) [] E0 (tCons (tVar 0) (tCons (tVar 1) tNil))) (gName 5)) (tAsg (tLc (iSeq K (tCall (sp__law_lots K) [] E0 (tCons (tVar 1) tNil))) (gName 7) (tTest (tOp (rEqU K) (tCB (rLenQ K) (tCons (tVar 7) tNil)) (tVar 5))) (tVar 7) [7]) (gName 3))) tNext) (tSeq (tIfS (tTest (tOp (rEqU K) (tVar 2) (tC (.int 5)))) (tDrop (tBM K "list" rAppend (tVar 3) (tCons (tTup (tCons (tCall (sp__law_draw K) [] E0 (tCons (tVar 0) (tCons (tVar 1) tNil))) tNil)) tNil))) tNext) (tRet (tCall (sp__law_greatest K) [] E0 (tCons (tVar 3) tNil)))))))))))
theorem sc__law_fears : FnScope ["_law_well_here", "_law_many", "_law_kind", "_law_lots_here", "_law_turn", "_law_few", "_law_house", "_law_lot"] ["_law_well_here", "_law_many"] (defScope Hd.s__law_fears) := ⟨rfl, rfl, rfl, by decide +kernel, rfl, by decide +kernel, by decide +kernel⟩
theorem tm__law_fears (T : Hd.Tx K mg) (c__law_greatest : Cal P w K mg base 2 "_law_greatest" ["_law_lots_here"] (sp__law_greatest K)) (c__law_draw : Cal P w K mg base 1 "_law_draw" ["_law_well_here", "_law_many"] (sp__law_draw K)) (c__law_lots : Cal P w K mg base 1 "_law_lots" ["_law_many"] (sp__law_lots K)) (c__law_others : Cal P w K mg base 1 "_law_others" ["_law_many", "_law_lot"] (sp__law_others K)) : BodyOk P w K mg base ["_law_well_here", "_law_many", "_law_kind", "_law_lots_here", "_law_turn", "_law_few", "_law_house", "_law_lot"] "_law_fears" Hd.s__law_fears f 2 (fun t => t = rd__law_fears P w K) :=
  fun cdv A outer s H E hr => ⟨_, (pss_cons (ps_set (i := 2) sc__law_fears.nd rfl (Or.inl rfl) (pc c__law_draw (hr.mono (by decide)) rfl (pa_cons (pv 0) (pa_cons pe_int pa_nil)))) (pss_cons (ps_set (i := 3) sc__law_fears.nd rfl (Or.inl rfl) (pe_lst (pa_cons (pe_tup pa_nil) pa_nil))) (pss_cons (ps_if (pt_cmpR (op_inU (units65 hr)) (pv 2) (pe_tup (pa_cons pe_int (pa_cons pe_int (pa_cons pe_int pa_nil)))) (by rfl)) (pss_one (ps_setLc (i := 3) (own := [("_law_house", 6)]) rfl sc__law_fears.nd rfl rfl (sw_true rfl rfl rfl (by kernel_rfl)) (pi_range1 rfl T.b_range (pa_cons (pv 1) pa_nil)) (blkOk_by (by kernel_rfl)) (fun _ _ _ _ _ => (pg_name (i := 6) sc__law_fears.nd rfl (by first | exact Or.inl rfl | exact Or.inr rfl))) (fun _ _ _ _ _ => pts_nil) (fun _ _ _ _ _ => (pe_tup (pa_cons (pv 6) pa_nil))))) pss_nil) (pss_cons (ps_if (pt_cmpR (op_eqU hr.units) (pv 2) pe_int (nomark _)) (pss_one (ps_asg (pe_tup pa_nil) (pg_sub (pv 3) (pc c__law_draw (hr.mono (by decide)) rfl (pa_cons (pv 0) (pa_cons (pv 1) pa_nil))) set_list))) pss_nil) (pss_cons (ps_if (PW.pt (pw_or (pt_cmpR (op_eqU hr.units) (pv 2) pe_int (nomark _)) (pw_or1 (pt_cmpR (op_eqU hr.units) (pv 2) pe_int (nomark _))))) (pss_one (ps_for PassesOwn.never rfl (pi_range1 rfl T.b_range (pa_cons (pe_op op_addU pe_int (pc c__law_draw (hr.mono (by decide)) rfl (pa_cons (pv 0) (pa_cons pe_int pa_nil)))) pa_nil)) (pg_name (i := 4) sc__law_fears.nd rfl (Or.inl rfl)) (pss_one (ps_expr (pe_bm PySem.F.plainAttrs_list PySem.F.slot_list_append PySem.F.type_list_append mt_append (pv 3) (pa_cons (pe_callTy call_tupQ (by rfl) T.b_tuple (by decide +kernel) (pa_cons (pe_lc (own := [("_law_house", 6)]) rfl sc__law_fears.nd (pi_range1 rfl T.b_range (pa_cons (pv 1) pa_nil)) (blkOk_by (by kernel_rfl)) (fun _ _ _ _ _ => (pg_name (i := 6) sc__law_fears.nd rfl (by first | exact Or.inl rfl | exact Or.inr rfl))) (fun _ _ _ _ _ => (pts_one (pt_cmpR (op_eqU hr.units) (pc c__law_draw (hr.mono (by decide)) rfl (pa_cons (pv 0) (pa_cons pe_int pa_nil))) pe_int (nomark _)))) (fun _ _ _ _ _ => (pv 6))) pa_nil)) pa_nil)))))) pss_nil) (pss_cons (ps_if (pt_cmpR (op_eqU hr.units) (pv 2) pe_int (nomark _)) (pss_one (ps_expr (pe_bm PySem.F.plainAttrs_list PySem.F.slot_list_append PySem.F.type_list_append mt_append (pv 3) (pa_cons (pc c__law_others (hr.mono (by decide)) rfl (pa_cons (pv 1) (pa_cons (pe_ix ix_U (pv 3) (pe_un un_neg pe_int) (fun _ _ => rfl)) pa_nil))) pa_nil)))) pss_nil) (pss_cons (ps_if (pt_cmpR (op_eqU hr.units) (pv 2) pe_int (nomark _)) (pss_cons (ps_set (i := 5) sc__law_fears.nd rfl (Or.inr rfl) (pc c__law_draw (hr.mono (by decide)) rfl (pa_cons (pv 0) (pa_cons (pv 1) pa_nil)))) (pss_one (ps_setLc (i := 3) (own := [("_law_lot", 7)]) rfl sc__law_fears.nd rfl rfl (sw_true rfl rfl rfl (by kernel_rfl)) (pi_seq (pc c__law_lots (hr.mono (by decide)) rfl (pa_cons (pv 1) pa_nil))) (blkOk_by (by kernel_rfl)) (fun _ _ _ _ _ => (pg_name (i := 7) sc__law_fears.nd rfl (by first | exact Or.inl rfl | exact Or.inr rfl))) (fun _ _ _ _ _ => (pts_one (pt_cmpR (op_eqU hr.units) (pe_callB call_lenQ (by rfl) T.b_len PySem.boot_len (pa_cons (pv 7) pa_nil)) (pv 5) (nomark _)))) (fun _ _ _ _ _ => (pv 7))))) pss_nil) (pss_cons (ps_if (pt_cmpR (op_eqU hr.units) (pv 2) pe_int (nomark _)) (pss_one (ps_expr (pe_bm PySem.F.plainAttrs_list PySem.F.slot_list_append PySem.F.type_list_append mt_append (pv 3) (pa_cons (pe_tup (pa_cons (pc c__law_draw (hr.mono (by decide)) rfl (pa_cons (pv 0) (pa_cons (pv 1) pa_nil))) pa_nil)) pa_nil)))) pss_nil) (pss_one (ps_ret (pc c__law_greatest (hr.mono (by decide)) rfl (pa_cons (pv 3) pa_nil)))))))))))), rfl⟩
def rd__law_net (P : Program) (w : World) (K : Fg) : TS := (tSeq (tAsg (tLstRange2 (tVar 1)) (gName 2)) (tSeq (tFor (iRng1 (tCons (tVar 1) tNil)) (gName 3) (tSeq (tAsg (tCB (rIntQ) (tCons (tOp (rAddU K) (tVar 3) (tCall (sp__law_draw K) [] E0 (tCons (tVar 0) (tCons (tOp (rI0 fun i j => V.int (i - j)) (tVar 1) (tVar 3)) tNil)))) tNil)) (gName 4)) (tAsg (tOp (rAddU K) (tOp (rAddU K) (tOp (rAddU K) (tSl (rSlU K) (tVar 2) tNoPart (tPart (tVar 3))) (tLst (tCons (tOp (rIxU K) (tVar 2) (tVar 4)) tNil))) (tSl (rSlU K) (tVar 2) (tPart (tVar 3)) (tPart (tVar 4)))) (tSl (rSlU K) (tVar 2) (tPart (tOp (rAddU K) (tVar 4) (tC (.int 1)))) tNoPart)) (gName 2)))) (tSeq (tAsg (tCall (sp__law_draw K) [] E0 (tCons (tVar 0) (tCons (tC (.int 6)) tNil))) (gName 5)) (tSeq (tAsg (tLc (iRng1 (tCons (tOp (rI0 fun i j => V.int (i - j)) (tVar 1) (tC (.int 1))) tNil)) (gName 3) tYes (tTup (tCons (tOp (rIxU K) (tVar 2) (tVar 3)) (tCons (tOp (rIxU K) (tVar 2) (tOp (rAddU K) (tVar 3) (tC (.int 1)))) tNil))) [3]) (gName 6)) (tSeq (tIfS (tTest (tOp (rEqU K) (tVar 5) (tC (.int 1)))) (tAsg (tLc (iSeq K (tSl (rSlU K) (tVar 2) (tPart (tC (.int 1))) tNoPart)) (gName 7) tYes (tTup (tCons (tOp (rIxU K) (tVar 2) (tC (.int 0))) (tCons (tVar 7) tNil))) [7]) (gName 6)) tNext) (tSeq (tIfS (tOr (tTest (tOp (rEqU K) (tVar 5) (tC (.int 2)))) (tTest (tOp (rEqU K) (tVar 5) (tC (.int 5))))) (tDrop (tBM K "list" rAppend (tVar 6) (tCons (tTup (tCons (tOp (rIxU K) (tVar 2) (tC (.int 0))) (tCons (tOp (rIxU K) (tVar 2) (tUn (rU fun i => V.int (-i)) (tC (.int 1)))) tNil))) tNil))) tNext) (tSeq (tIfS (tTest (tOp (rEqU K) (tVar 5) (tC (.int 4)))) (tDrop (tBM K "list" rPopAt (tVar 6) (tCons (tCall (sp__law_draw K) [] E0 (tCons (tVar 0) (tCons (tOp (rI0 fun i j => V.int (i - j)) (tVar 1) (tC (.int 1))) tNil))) tNil))) tNext) (tSeq (tIfS (tOr (tTest (tOp (rEqU K) (tVar 5) (tC (.int 3)))) (tTest (tOp (rEqU K) (tVar 5) (tC (.int 5))))) (tAsg (tOp (rAddU K) (tVar 6) (tLc (iSeq K (tCall (sp__law_mesh K) [] E0 (tCons (tVar 1) tNil))) (gName 8) (tTest (tOp (rEqU K) (tCall (sp__law_draw K) [] E0 (tCons (tVar 0) (tCons (tC (.int 3)) tNil))) (tC (.int 1)))) (tVar 8) [8])) (gName 6)) tNext) (tSeq (tIfS (tTest (tOp (rEqU K) (tVar 5) (tC (.int 3)))) (tAsg (tSl (rSlU K) (tVar 6) (tPart (tC (.int 1))) tNoPart) (gName 6)) tNext) (tRet (tCB (rTupQ K) (tCons (tSS K P w (tLc (iSeq K (tVar 6)) (gTup K 2 (gCons (gName 9) (gCons (gName 10) gNil))) tYes (tTup (tCons (tCB (rMin K) (tCons (tLst (tCons (tVar 9) (tCons (tVar 10) tNil))) tNil)) (tCons (tCB (rMax K) (tCons (tLst (tCons (tVar 9) (tCons (tVar 10) tNil))) tNil)) tNil))) [9, 10])) tNil))))))))))))
theorem sc__law_net : FnScope ["_law_well_here", "_law_many", "_law_order", "_law_k", "_law_at", "_law_kind", "_law_pairs", "_law_house", "_law_pair_here", "_law_one", "_law_other"] ["_law_well_here", "_law_many"] (defScope Hd.s__law_net) := ⟨rfl, rfl, rfl, by decide +kernel, rfl, by decide +kernel, by decide +kernel⟩
theorem tm__law_net (T : Hd.Tx K mg) (c__law_mesh : Cal P w K mg base 2 "_law_mesh" ["_law_many"] (sp__law_mesh K)) (c__law_draw : Cal P w K mg base 1 "_law_draw" ["_law_well_here", "_law_many"] (sp__law_draw K)) : BodyOk P w K mg base ["_law_well_here", "_law_many", "_law_order", "_law_k", "_law_at", "_law_kind", "_law_pairs", "_law_house", "_law_pair_here", "_law_one", "_law_other"] "_law_net" Hd.s__law_net f 2 (fun t => t = rd__law_net P w K) :=
  fun cdv A outer s H E hr => ⟨_, (pss_cons (ps_set (i := 2) sc__law_net.nd rfl (Or.inr rfl) (pe_listRg rfl rfl T.b_list (prg_1 rfl T.b_range (pv 1)))) (pss_cons (ps_for PassesOwn.never rfl (pi_range1 rfl T.b_range (pa_cons (pv 1) pa_nil)) (pg_name (i := 3) sc__law_net.nd rfl (Or.inl rfl)) (pss_cons (ps_set (i := 4) sc__law_net.nd rfl (Or.inl rfl) (pe_callTy call_intQ (by rfl) T.b_int (by decide +kernel) (pa_cons (pe_op op_addU (pv 3) (pc c__law_draw (hr.mono (by decide)) rfl (pa_cons (pv 0) (pa_cons (pe_op op_sub (pv 1) (pv 3)) pa_nil)))) pa_nil))) (pss_one (ps_set (i := 2) sc__law_net.nd rfl (Or.inr rfl) (pe_op op_addU (pe_op op_addU (pe_op op_addU (pe_slice sl_U (pv 2) po_none (po_some (pv 3))) (pe_lst (pa_cons (pe_ix ix_U (pv 2) (pv 4) (fun _ _ => rfl)) pa_nil))) (pe_slice sl_U (pv 2) (po_some (pv 3)) (po_some (pv 4)))) (pe_slice sl_U (pv 2) (po_some (pe_op op_addU (pv 4) pe_int)) po_none)))))) (pss_cons (ps_set (i := 5) sc__law_net.nd rfl (Or.inl rfl) (pc c__law_draw (hr.mono (by decide)) rfl (pa_cons (pv 0) (pa_cons pe_int pa_nil)))) (pss_cons (ps_setLc (i := 6) (own := [("_law_k", 3)]) rfl sc__law_net.nd rfl rfl (sw_true rfl rfl rfl (by kernel_rfl)) (pi_range1 rfl T.b_range (pa_cons (pe_op op_sub (pv 1) pe_int) pa_nil)) (blkOk_by (by kernel_rfl)) (fun _ _ _ _ _ => (pg_name (i := 3) sc__law_net.nd rfl (by first | exact Or.inl rfl | exact Or.inr rfl))) (fun _ _ _ _ _ => pts_nil) (fun _ _ _ _ _ => (pe_tup (pa_cons (pe_ix ix_U (pv 2) (pv 3) (fun _ _ => rfl)) (pa_cons (pe_ix ix_U (pv 2) (pe_op op_addU (pv 3) pe_int) (fun _ _ => rfl)) pa_nil))))) (pss_cons (ps_if (pt_cmpR (op_eqU hr.units) (pv 5) pe_int (nomark _)) (pss_one (ps_setLc (i := 6) (own := [("_law_house", 7)]) rfl sc__law_net.nd rfl rfl (sw_true rfl rfl rfl (by kernel_rfl)) (pi_seq (pe_slice sl_U (pv 2) (po_some pe_int) po_none)) (blkOk_by (by kernel_rfl)) (fun _ _ _ _ _ => (pg_name (i := 7) sc__law_net.nd rfl (by first | exact Or.inl rfl | exact Or.inr rfl))) (fun _ _ _ _ _ => pts_nil) (fun _ _ _ _ _ => (pe_tup (pa_cons (pe_ix ix_U (pv 2) pe_int (fun _ _ => rfl)) (pa_cons (pv 7) pa_nil)))))) pss_nil) (pss_cons (ps_if (PW.pt (pw_or (pt_cmpR (op_eqU hr.units) (pv 5) pe_int (nomark _)) (pw_or1 (pt_cmpR (op_eqU hr.units) (pv 5) pe_int (nomark _))))) (pss_one (ps_expr (pe_bm PySem.F.plainAttrs_list PySem.F.slot_list_append PySem.F.type_list_append mt_append (pv 6) (pa_cons (pe_tup (pa_cons (pe_ix ix_U (pv 2) pe_int (fun _ _ => rfl)) (pa_cons (pe_ix ix_U (pv 2) (pe_un un_neg pe_int) (fun _ _ => rfl)) pa_nil))) pa_nil)))) pss_nil) (pss_cons (ps_if (pt_cmpR (op_eqU hr.units) (pv 5) pe_int (nomark _)) (pss_one (ps_expr (pe_bm PySem.F.plainAttrs_list PySem.F.slot_list_pop PySem.F.type_list_pop mt_popAt (pv 6) (pa_cons (pc c__law_draw (hr.mono (by decide)) rfl (pa_cons (pv 0) (pa_cons (pe_op op_sub (pv 1) pe_int) pa_nil))) pa_nil)))) pss_nil) (pss_cons (ps_if (PW.pt (pw_or (pt_cmpR (op_eqU hr.units) (pv 5) pe_int (nomark _)) (pw_or1 (pt_cmpR (op_eqU hr.units) (pv 5) pe_int (nomark _))))) (pss_one (ps_set (i := 6) sc__law_net.nd rfl (Or.inl rfl) (pe_op op_addU (pv 6) (pe_lc (own := [("_law_pair_here", 8)]) rfl sc__law_net.nd (pi_seq (pc c__law_mesh (hr.mono (by decide)) rfl (pa_cons (pv 1) pa_nil))) (blkOk_by (by kernel_rfl)) (fun _ _ _ _ _ => (pg_name (i := 8) sc__law_net.nd rfl (by first | exact Or.inl rfl | exact Or.inr rfl))) (fun _ _ _ _ _ => (pts_one (pt_cmpR (op_eqU hr.units) (pc c__law_draw (hr.mono (by decide)) rfl (pa_cons (pv 0) (pa_cons pe_int pa_nil))) pe_int (nomark _)))) (fun _ _ _ _ _ => (pv 8)))))) pss_nil) (pss_cons (ps_if (pt_cmpR (op_eqU hr.units) (pv 5) pe_int (nomark _)) (pss_one (ps_set (i := 6) sc__law_net.nd rfl (Or.inl rfl) (pe_slice sl_U (pv 6) (po_some pe_int) po_none))) pss_nil) (pss_one (ps_ret (pe_callTy call_tupQ (by rfl) T.b_tuple (by decide +kernel) (pa_cons (pe_callB (cr_sortSU rfl hr.units) (by rfl) T.b_sorted (by decide +kernel) (pa_cons (pe_callTy (cr_setU rfl hr.units) (by rfl) T.b_set (by decide +kernel) (pa_cons (pe_lc (own := [("_law_one", 9), ("_law_other", 10)]) rfl sc__law_net.nd (pi_seq (pv 6)) (blkOk_by (by kernel_rfl)) (fun _ _ _ _ _ => (pg_tup (by rfl) (pgs_cons (pg_name (i := 9) sc__law_net.nd rfl (by first | exact Or.inl rfl | exact Or.inr rfl)) (pgs_cons (pg_name (i := 10) sc__law_net.nd rfl (by first | exact Or.inl rfl | exact Or.inr rfl)) pgs_nil)))) (fun _ _ _ _ _ => pts_nil) (fun _ _ _ _ _ => (pe_tup (pa_cons (pe_callB (cr_min rfl) (by rfl) T.b_min (by decide +kernel) (pa_cons (pe_lst (pa_cons (pv 9) (pa_cons (pv 10) pa_nil))) pa_nil)) (pa_cons (pe_callB (cr_max rfl) (by rfl) T.b_max (by decide +kernel) (pa_cons (pe_lst (pa_cons (pv 9) (pa_cons (pv 10) pa_nil))) pa_nil)) pa_nil))))) pa_nil)) pa_nil)) pa_nil))))))))))))), rfl⟩
def rd__law_thin (P : Program) (w : World) (K : Fg) : TS := (tSeq (tAsg (tCall (sp__law_mesh K) [] E0 (tCons (tVar 1) tNil)) (gName 3)) (tSeq (tFor (iRng1 (tCons (tOp (rAddU K) (tC (.int 2)) (tCall (sp__law_draw K) [] E0 (tCons (tVar 0) (tCons (tOp (rI0 fun i j => V.int (i - j)) (tC (.int 12)) (tOp (rMulU K) (tC (.int 2)) (tVar 1))) tNil)))) tNil)) (gName 4) (tSeq (tAsg (tOp (rI (fun _ j => j ≠ 0) fun i j => V.int (i.fmod j)) (tCB (rIntQ) (tCons (tOp (rAddU K) (tVar 4) (tCall (sp__law_draw K) [] E0 (tCons (tVar 0) (tCons (tCB (rLenQ K) (tCons (tVar 3) tNil)) tNil)))) tNil)) (tCB (rLenQ K) (tCons (tVar 3) tNil))) (gName 5)) (tSeq (tAsg (tOp (rAddU K) (tSl (rSlU K) (tVar 3) tNoPart (tPart (tVar 5))) (tSl (rSlU K) (tVar 3) (tPart (tOp (rAddU K) (tVar 5) (tC (.int 1)))) tNoPart)) (gName 6)) (tIfS (tTest (tOp (rEqU K) (tCall (sp__law_divided K) [] E0 (tCons (tVar 1) (tCons (tVar 6) (tCons (tVar 2) tNil)))) (tLst tNil))) (tAsg (tVar 6) (gName 3)) tNext)))) (tRet (tCB (rTupQ K) (tCons (tVar 3) tNil)))))
theorem sc__law_thin : FnScope ["_law_well_here", "_law_many", "_law_feared_here", "_law_wires", "_law_turn", "_law_at", "_law_rest"] ["_law_well_here", "_law_many", "_law_feared_here"] (defScope Hd.s__law_thin) := ⟨rfl, rfl, rfl, by decide +kernel, rfl, by decide +kernel, by decide +kernel⟩
theorem tm__law_thin (T : Hd.Tx K mg) (c__law_draw : Cal P w K mg base 1 "_law_draw" ["_law_well_here", "_law_many"] (sp__law_draw K)) (c__law_divided : Cal P w K mg base 2 "_law_divided" ["_law_many", "_law_wires", "_law_feared_here"] (sp__law_divided K)) (c__law_mesh : Cal P w K mg base 2 "_law_mesh" ["_law_many"] (sp__law_mesh K)) : BodyOk P w K mg base ["_law_well_here", "_law_many", "_law_feared_here", "_law_wires", "_law_turn", "_law_at", "_law_rest"] "_law_thin" Hd.s__law_thin f 2 (fun t => t = rd__law_thin P w K) :=
  fun cdv A outer s H E hr => ⟨_, (pss_cons (ps_set (i := 3) sc__law_thin.nd rfl (Or.inl rfl) (pc c__law_mesh (hr.mono (by decide)) rfl (pa_cons (pv 1) pa_nil))) (pss_cons (ps_for PassesOwn.never rfl (pi_range1 rfl T.b_range (pa_cons (pe_op op_addU pe_int (pc c__law_draw (hr.mono (by decide)) rfl (pa_cons (pv 0) (pa_cons (pe_op op_sub pe_int (pe_op op_mulU pe_int (pv 1))) pa_nil)))) pa_nil)) (pg_name (i := 4) sc__law_thin.nd rfl (Or.inl rfl)) (pss_cons (ps_set (i := 5) sc__law_thin.nd rfl (Or.inl rfl) (pe_op op_modN (pe_callTy call_intQ (by rfl) T.b_int (by decide +kernel) (pa_cons (pe_op op_addU (pv 4) (pc c__law_draw (hr.mono (by decide)) rfl (pa_cons (pv 0) (pa_cons (pe_callB call_lenQ (by rfl) T.b_len PySem.boot_len (pa_cons (pv 3) pa_nil)) pa_nil)))) pa_nil)) (pe_callB call_lenQ (by rfl) T.b_len PySem.boot_len (pa_cons (pv 3) pa_nil)))) (pss_cons (ps_set (i := 6) sc__law_thin.nd rfl (Or.inl rfl) (pe_op op_addU (pe_slice sl_U (pv 3) po_none (po_some (pv 5))) (pe_slice sl_U (pv 3) (po_some (pe_op op_addU (pv 5) pe_int)) po_none))) (pss_one (ps_if (pt_cmpR (op_eqU hr.units) (pc c__law_divided (hr.mono (by decide)) rfl (pa_cons (pv 1) (pa_cons (pv 6) (pa_cons (pv 2) pa_nil)))) (pe_lst pa_nil) (nomark _)) (pss_one (ps_set (i := 3) sc__law_thin.nd rfl (Or.inl rfl) (pv 6))) pss_nil))))) (pss_one (ps_ret (pe_callTy call_tupQ (by rfl) T.b_tuple (by decide +kernel) (pa_cons (pv 3) pa_nil)))))), rfl⟩
end
end Dy
/-! ## Dw2 -/
namespace Mi
open Dy
/-! ### the draws stay in bounds -/
section
variable {c : Well} {n m : Int}
theorem fmod_lo {a b : Int} (h : 0 < b) : 0 ≤ a.fmod b := Int.fmod_nonneg_of_pos a h
theorem fmod_lt {a b : Int} (h : 0 < b) : a.fmod b < b := Int.fmod_lt_of_pos a h
theorem draw_ok (h : WellOk c) : WellOk (drawW c n).2 := by
  obtain ⟨h1, h2, h3⟩ := h
  unfold drawW
  split
  · exact ⟨h1, h2, h3⟩
  · split
    · exact ⟨Int.ediv_nonneg h1 (by omega), h2, h3⟩
    · have a := fmod_lo (a := c.2 * 46021 + c.1 + 23333) (b := 2147483497) (by decide)
      have b := fmod_lt (a := c.2 * 46021 + c.1 + 23333) (b := 2147483497) (by decide)
      exact ⟨h1, by show (0 : Int) ≤ 1 + _; omega, by show 1 + _ ≤ (2147483497 : Int); omega⟩
theorem draw_lo : 0 ≤ (drawW c n).1 := by
  unfold drawW
  split
  · exact Int.le_refl 0
  · split
    · exact fmod_lo (by omega)
    · exact fmod_lo (by omega)
theorem draw_lt (hn : 0 < n) : (drawW c n).1 < n := by
  unfold drawW
  split
  · exact hn
  · split
    · exact fmod_lt (by omega)
    · exact fmod_lt (by omega)
theorem draw_le : (drawW c n).1 ≤ max n 0 := by
  by_cases h : 0 < n
  · have := draw_lt (c := c) h
    omega
  · unfold drawW
    rw [if_pos (.inl (by omega))]
    show (0 : Int) ≤ _
    omega
end
section
variable {α : Type} {n : Int} {c : Well}
theorem pick_snoc (pre : List α) (x : α) : pickW n c (pre ++ [x]) = pickStep n (pickW n c pre) x := by
  unfold pickW
  rw [List.foldl_append]
  rfl
theorem pick_facts (h : WellOk c) (xs : List α) : WellOk (pickW n c xs).1 ∧ (pickW n c xs).2.Sublist xs := by
  refine snoc_ind (p := fun xs => WellOk (pickW n c xs).1 ∧ (pickW n c xs).2.Sublist xs) ⟨h, List.Sublist.refl _⟩ (fun pre x ih => ?_) xs
  rw [pick_snoc]
  refine ⟨draw_ok ih.1, ?_⟩
  unfold pickStep
  refine List.Sublist.append ih.2 ?_
  split
  · exact List.Sublist.refl _
  · exact List.nil_sublist _
end
/-! ### what is drawn to be feared -/
section
variable {c : Well} {m k : Int}
structure FL (m : Int) (b : Nat) (s : Well × List Lot) : Prop where
  w : WellOk s.1
  ne : s.2 ≠ []
  len : s.2.length ≤ b
  ok : ∀ l ∈ s.2, LotOk m l
theorem FL.up {b b' : Nat} {s : Well × List Lot} (h : FL m b s) (hb : b ≤ b') : FL m b' s := ⟨h.w, h.ne, Nat.le_trans h.len hb, h.ok⟩
theorem lot_nil : LotOk m [] := ⟨.nil, fun x hx => by simp at hx⟩
theorem lot_1 {h : Int} (h0 : 0 ≤ h) (h1 : h < m) : LotOk m [h] := ⟨by simp, fun x hx => by rw [List.mem_singleton.mp hx]; exact ⟨h0, h1⟩⟩
theorem lot_sub {l : Lot} (h0 : 0 ≤ m) (h : l.Sublist (rng 0 m.toNat)) : LotOk m l := ⟨(rng_lt 0 _).sublist h, fun x hx => by have := mem_rng.mp (h.subset hx); omega⟩
theorem fl_kind (hc : WellOk c) (h2 : 2 ≤ m) (h6 : m ≤ 6) : FL m 6 (c, kindLots m k) := by
  unfold kindLots
  split
  · refine ⟨hc, fun e => ?_, ?_, fun l hl => ?_⟩
    · have := congrArg List.length e
      rw [List.length_map, rng_len] at this
      simp only [List.length_nil] at this
      omega
    · rw [List.length_map, rng_len]
      omega
    · obtain ⟨h, hh, rfl⟩ := List.mem_map.mp hl
      have := mem_rng.mp hh
      exact lot_1 (by omega) (by omega)
  · refine ⟨hc, by simp, by simp, fun l hl => ?_⟩
    rw [List.mem_singleton.mp hl]
    exact lot_nil
theorem fl_A {b : Nat} {s : Well × List Lot} (h : FL m b s) : FL m b (fA m k s) := by
  unfold fA
  split
  · refine ⟨draw_ok h.w, fun e => h.ne ?_, by rw [List.length_set]; exact h.len, fun l hl => ?_⟩
    · have := congrArg List.length e
      rw [List.length_set] at this
      exact List.length_eq_zero_iff.mp this
    · rcases List.mem_or_eq_of_mem_set hl with z | z
      · exact h.ok l z
      · rw [z]
        exact lot_nil
  · exact h
theorem fl_sub (h0 : 0 ≤ m) : ∀ (ts : List Int) {b : Nat} {s : Well × List Lot}, FL m b s → FL m (b + ts.length) (ts.foldl (subStep m) s)
  | [], b, s, h => h
  | t :: ts, b, s, h => by
    have p := pick_facts (n := 2) h.w (rng 0 m.toNat)
    have z := fl_sub h0 ts (b := b + 1) (s := subStep m s t) ⟨p.1, by simp [subStep], by show (s.2 ++ [_]).length ≤ _; rw [List.length_append]; exact Nat.succ_le_succ h.len, fun l hl => by
      rcases List.mem_append.mp hl with z | z
      · exact h.ok l z
      · rw
              [List.mem_singleton.mp z]
        exact lot_sub h0 p.2⟩
    exact z.up (by rw [List.length_cons]; omega)
theorem fl_B {b : Nat} {s : Well × List Lot} (h0 : 0 ≤ m) (h : FL m b s) : FL m (b + 3) (fB m k s) := by
  unfold fB
  split
  · refine (fl_sub h0 _ (b := b) (s := ((drawW s.1 3).2, s.2)) ⟨draw_ok h.w, h.ne, h.len, h.ok⟩).up ?_
    rw [rng_len]
    have := draw_lo (c := s.1) (n := 3)
    have := draw_lt (c := s.1) (n := 3) (by decide)
    omega
  · exact h.up (by omega)
theorem fl_C {b : Nat} {s : Well × List Lot} (h : FL m b s) : FL m (b + 1) (fC m k s) := by
  unfold fC
  split
  · refine ⟨h.w, by simp, by show (s.2 ++ [_]).length ≤ _; rw [List.length_append]; exact Nat.succ_le_succ h.len, fun l hl => ?_⟩
    rcases List.mem_append.mp hl with z | z
    · exact h.ok l z
    · rw
            [List.mem_singleton.mp z]
      exact others_ok _
  · exact h.up (by omega)
theorem lots_of {d : Int} (h2 : 2 ≤ m) (h6 : m ≤ 6) (d0 : 0 ≤ d) (d1 : d < m) : ((lots m).filter fun l => decide ((l.length : Int) = d)).length ≤ 20 := by
  have e : ((lots m).filter fun l => decide ((l.length : Int) = d)).length = ((lotsN m.toNat).filter fun l => decide ((l.length : Int) = d)).length := ((List.mergeSort_perm _ _).filter _).length_eq
  rw [e]
  have key : ∀ n : Fin 7, ∀ f : Fin 6, ((lotsN n.val).filter fun l => decide ((l.length : Int) = (f.val : Int))).length ≤ 20 := by decide +kernel
  have z := key ⟨m.toNat, by omega⟩ ⟨d.toNat, by omega⟩
  simp only [show ((d.toNat : Nat) : Int) = d by omega] at z
  exact z
theorem fl_D {b : Nat} {s : Well × List Lot} (h2 : 2 ≤ m) (h6 : m ≤ 6) (h : FL m b s) : FL m (if k = 4 then 20 else b) (fD m k s) := by
  unfold fD
  split
  · have d0 := draw_lo (c := s.1) (n := m)
    have d1 := draw_lt (c := s.1) (n := m) (by omega)
    refine ⟨draw_ok h.w, fun e => ?_, lots_of h2 h6 d0 d1, fun l hl => (mem_lots (by omega)).mp (List.mem_filter.mp hl).1⟩
    have z : rng 0 (drawW s.1 m).1.toNat ∈ (lots m).filter fun l => decide ((l.length : Int) = (drawW s.1 m).1) := List.mem_filter.mpr ⟨(mem_lots (by omega)).mpr ⟨rng_lt 0 _, fun x hx => by have := mem_rng.mp hx; omega⟩, by rw [rng_len]; exact decide_eq_true (by omega)⟩
    have e : ((lots m).filter fun l => decide ((l.length : Int) = (drawW s.1 m).1)) = [] := e
    rw [e] at z
    simp at z
  · exact h
theorem fl_E {b : Nat} {s : Well × List Lot} (h2 : 2 ≤ m) (h : FL m b s) : FL m (if k = 5 then b + 1 else b) (fE m k s) := by
  unfold fE
  split
  · refine ⟨draw_ok h.w, by simp, by show (s.2 ++ [_]).length ≤ _; rw [List.length_append]; exact Nat.succ_le_succ h.len, fun l hl => ?_⟩
    rcases List.mem_append.mp hl with z | z
    · exact h.ok l z
    · rw
            [List.mem_singleton.mp z]
      exact lot_1 draw_lo (draw_lt (by omega))
  · exact h
theorem fears_facts (h : Ma c m) : FL m 20 (fearsS c m) := by
  obtain ⟨hc, h2, h6⟩ := h
  have z := fl_E (k := (drawW c 8).1) h2 (fl_D (k := (drawW c 8).1) h2 h6 (fl_C (k := (drawW c 8).1) (fl_B (k := (drawW c 8).1) (by omega) (fl_A (k := (drawW c 8).1) (fl_kind (k := (drawW c 8).1) (draw_ok (n := 8) hc) h2 h6)))))
  refine FL.up z ?_
  split <;> split <;> omega
theorem greatest_le (ls : List Lot) : (lawGreatest ls).length ≤ ls.length := by
  unfold lawGreatest ssort
  refine Nat.le_trans (List.length_filter_le _ _) ?_
  rw [sortT_len]
  exact dd_len ls
theorem fears_in (h : Ma c m) : WellOk (fearsW c m).2 ∧ FearsOk m (fearsW c m).1 ∧ (fearsW c m).1.length ≤ 20 := by
  have z := fears_facts h
  exact ⟨z.w, fears_greatest z.ok z.ne, Nat.le_trans (greatest_le _) z.len⟩
end
/-! ### what is drawn to be a net -/
section
variable {α : Type} {xs : List α} {k a : Int}
theorem six_nn {n d : Nat} (h : 0 ≤ k) : HT.sIx n d (some k) = min k.toNat n := by
  show (if k < 0 then (k + (n : Int)).toNat else min k.toNat n) = _
  rw [if_neg (by omega)]
theorem cut_take (h : 0 ≤ k) : cutX xs none (some k) = xs.take k.toNat := by
  unfold cutX
  rw [six_nn h]
  show List.take (min k.toNat xs.length - 0) (List.drop 0 xs) = _
  rw [List.drop_zero, Nat.sub_zero]
  by_cases z : k.toNat ≤ xs.length
  · rw [Nat.min_eq_left z]
  · rw [Nat.min_eq_right (by omega), List.take_length, List.take_of_length_le (by omega)]
theorem cut_drop (h : 0 ≤ k) : cutX xs (some k) none = xs.drop k.toNat := by
  unfold cutX
  rw [six_nn h]
  show List.take (xs.length - min k.toNat xs.length) (List.drop (min k.toNat xs.length) xs) = _
  by_cases z : k.toNat ≤ xs.length
  · rw [Nat.min_eq_left z, List.take_of_length_le (by rw [List.length_drop]; omega)]
  · rw [Nat.min_eq_right (by omega), List.drop_length, List.drop_of_length_le (by omega), List.take_nil]
theorem cut_mid (h : 0 ≤ k) (h1 : k ≤ a) (h2 : a ≤ xs.length) : cutX xs (some k) (some a) = (xs.drop k.toNat).take (a.toNat - k.toNat) := by
  unfold cutX
  rw [six_nn h, six_nn (by omega), Nat.min_eq_left (by omega), Nat.min_eq_left (by omega)]
theorem at_get1 [Inhabited α] {i : Nat} (h : i < xs.length) : at' xs (i : Int) = xs[i] := by
  unfold at'
  rw [Int.toNat_natCast, List.getD, List.getElem?_eq_getElem h]
  rfl
theorem at_get' [Inhabited α] (h : 0 ≤ k) (h1 : k < xs.length) : at' xs k = xs[k.toNat]'(by omega) := by
  obtain ⟨i, rfl⟩ := Int.eq_ofNat_of_zero_le h
  exact at_get1 (by omega)
theorem move_perm [Inhabited α] (h : 0 ≤ k) (h1 : k ≤ a) (h2 : a < xs.length) : (cutX xs none (some k) ++ [at' xs a] ++ cutX xs (some k) (some a) ++ cutX xs (some (a + 1)) none).Perm xs := by
  rw [cut_take h, cut_mid h h1 (by omega), cut_drop (by omega), at_get' (by omega) h2]
  have e1 : xs.drop k.toNat = (xs.drop k.toNat).take (a.toNat - k.toNat) ++ xs.drop a.toNat := by
    have z := List.take_append_drop (a.toNat - k.toNat) (xs.drop k.toNat)
    rw [List.drop_drop, show k.toNat + (a.toNat - k.toNat) = a.toNat by omega] at z
    exact z.symm
  have e2 : xs.drop a.toNat = xs[a.toNat]'(by omega) :: xs.drop (a + 1).toNat := by
    rw [show (a + 1).toNat = a.toNat + 1 by omega]
    exact List.drop_eq_getElem_cons _
  have e3 : xs = xs.take k.toNat ++ ((xs.drop k.toNat).take (a.toNat - k.toNat) ++ (xs[a.toNat]'(by omega) :: xs.drop (a + 1).toNat)) := by
    rw [← e2, ← e1, List.take_append_drop]
  have p : (xs.take k.toNat ++ [xs[a.toNat]'(by omega)] ++ (xs.drop k.toNat).take (a.toNat - k.toNat) ++ xs.drop (a + 1).toNat).Perm (xs.take k.toNat ++ ((xs.drop k.toNat).take (a.toNat - k.toNat) ++ (xs[a.toNat]'(by omega) :: xs.drop (a + 1).toNat))) := by
    rw [List.append_assoc,
            List.append_assoc]
    exact List.Perm.append_left _ (List.perm_middle (l₁ := (xs.drop k.toNat).take (a.toNat - k.toNat)) (a := xs[a.toNat]'(by omega)) (l₂ := xs.drop (a + 1).toNat)).symm
  exact p.trans (List.Perm.of_eq e3.symm)
end
section
variable {c : Well} {m k : Int}
theorem order_snoc (pre : List Int) (x : Int) (s : Well × List Int) : (pre ++ [x]).foldl (orderStep m) s = orderStep m (pre.foldl (orderStep m) s) x := by
  rw [List.foldl_append]
  rfl
theorem order_facts (h : WellOk c) (h0 : 0 ≤ m) (pre post : List Int) (e : rng 0 m.toNat = pre ++ post) : WellOk (pre.foldl (orderStep m) (c, rng 0 m.toNat)).1 ∧ ((pre.foldl (orderStep m) (c, rng 0 m.toNat)).2).Perm (rng 0 m.toNat) := by
  revert post
  refine snoc_ind (p := fun pre => ∀ post, rng 0 m.toNat = pre ++ post → WellOk (pre.foldl (orderStep m) (c, rng 0 m.toNat)).1 ∧ ((pre.foldl (orderStep m) (c, rng 0 m.toNat)).2).Perm (rng 0 m.toNat)) (fun _ _ => ⟨h, .refl _⟩) (fun pre x ih post e => ?_) pre
  obtain ⟨i1, i2⟩ := ih (x :: post) (by rw [e]; simp)
  have hx : x ∈ rng 0 m.toNat := by rw [e]; simp
  have hx := mem_rng.mp hx
  rw [order_snoc]
  refine ⟨draw_ok i1, List.Perm.trans (move_perm (by omega) ?_ ?_) i2⟩
  · have := draw_lo (c := (pre.foldl (orderStep m) (c, rng 0 m.toNat)).1) (n := m - x)
    omega
  · have := draw_lt (c := (pre.foldl (orderStep m) (c, rng 0 m.toNat)).1) (n := m - x) (by omega)
    rw [i2.length_eq, rng_len]
    omega
structure OrdOk (m : Int) (o : List Int) : Prop where
  nd : o.Nodup
  len : (o.length : Int) = m
  ok : ∀ x ∈ o, 0 ≤ x ∧ x < m
theorem ord_of {o : List Int} (h0 : 0 ≤ m) (h : o.Perm (rng 0 m.toNat)) : OrdOk m o := by
  refine ⟨h.nodup_iff.mpr (lt_nodup (rng_lt 0 _)), ?_, fun x hx => ?_⟩
  · rw [h.length_eq, rng_len]
    omega
  · have := mem_rng.mp (h.mem_iff.mp hx)
    omega
def PairsIn (m : Int) (ps : List Wire) : Prop := ∀ p ∈ ps, (0 ≤ p.1 ∧ p.1 < m) ∧ (0 ≤ p.2 ∧ p.2 < m) ∧ p.1 ≠ p.2
theorem ord_at {o : List Int} (h : OrdOk m o) {i : Int} (h0 : 0 ≤ i) (h1 : i < m) : at' o i ∈ o := by
  rw [at_get' h0 (by rw [h.len]; exact h1)]
  exact List.getElem_mem _
theorem ord_ne {o : List Int} (h : OrdOk m o) {i j : Int} (h0 : 0 ≤ i) (h1 : i < j) (h2 : j < m) : at' o i ≠ at' o j := by
  have hl := h.len
  rw [at_get' h0 (by omega), at_get' (by omega) (by omega)]
  intro z
  have := (List.getElem_inj h.nd).mp z
  omega
theorem ord_pair {o : List Int} (h : OrdOk m o) {i j : Int} (h0 : 0 ≤ i) (h1 : i < j) (h2 : j < m) : PairsIn m [(at' o i, at' o j)] := fun p hp => by
  rw [List.mem_singleton.mp hp]
  exact ⟨h.ok _ (ord_at h h0 (by omega)), h.ok _ (ord_at h (by omega) h2), ord_ne h h0 h1 h2⟩
theorem last_at {o : List Int} (h : OrdOk m o) (h2 : 2 ≤ m) : lastD o = at' o (m - 1) := by
  have hl := h.len
  unfold lastD at'
  rw [show (m - 1).toNat = o.length - 1 by omega]
theorem pairs_app {ps qs : List Wire} (h : PairsIn m ps) (h' : PairsIn m qs) : PairsIn m (ps ++ qs) := fun p hp => (List.mem_append.mp hp).elim (h p) (h' p)
theorem pairs_sub {ps qs : List Wire} (h : PairsIn m ps) (h' : ∀ p ∈ qs, p ∈ ps) : PairsIn m qs := fun p hp => h p (h' p hp)
theorem pairs_0 {o : List Int} (h : OrdOk m o) : PairsIn m (pairs0 m o) := fun p hp => by
  obtain ⟨k, hk, rfl⟩ := List.mem_map.mp hp
  have := mem_rng.mp hk
  exact ord_pair h (i := k) (j := k + 1) (by omega) (by omega) (by omega) _ (List.mem_singleton.mpr rfl)
theorem pairs_A {o : List Int} {ps : List Wire} (h : OrdOk m o) (hp : PairsIn m ps) : PairsIn m (gA k o ps) := by
  unfold gA
  split
  · intro p hq
    obtain ⟨x, hx, rfl⟩ := List.mem_map.mp hq
    rw [cut_drop (by decide)] at hx
    obtain ⟨i, hi, e⟩ := List.getElem_of_mem hx
    rw [List.length_drop] at hi
    rw [List.getElem_drop] at e
    have hl := h.len
    have z : at' o ((1 + i : Nat) : Int) = x := by rw [at_get1 (by omega)]; exact e
    rw [← z]
    exact ord_pair h (i := 0) (j := ((1 + i : Nat) : Int)) (by omega) (by omega) (by omega) _ (List.mem_singleton.mpr rfl)
  · exact hp
theorem pairs_B {o : List Int} {ps : List Wire} (h : OrdOk m o) (h2 : 2 ≤ m) (hp : PairsIn m ps) : PairsIn m (gB k o ps) := by
  unfold gB
  split
  · rw [last_at h h2]
    exact pairs_app hp (ord_pair h (by omega) (by omega) (by omega))
  · exact hp
theorem mesh_pairs (h2 : 2 ≤ m) : PairsIn m (mesh m) := fun p hp => by
  have z := (mem_mesh (by omega)).mp hp
  obtain ⟨z1, z2, z3⟩ := z
  exact ⟨by omega,
          by omega, by omega⟩
theorem len_0 {o : List Int} : (pairs0 m o).length = (m - 1).toNat := by
  unfold pairs0
  rw [List.length_map, rng_len]
theorem len_A {o : List Int} {ps : List Wire} (h : OrdOk m o) (h2 : 2 ≤ m) (hp : ps.length = (m - 1).toNat) : (gA k o ps).length = (m - 1).toNat := by
  unfold gA
  split
  · have hl := h.len
    rw [List.length_map, cut_drop (by decide), List.length_drop]
    show o.length - 1 = _
    omega
  · exact hp
structure GP (m : Int) (b : Nat) (s : Well × List Wire) : Prop where
  w : WellOk s.1
  ok : PairsIn m s.2
  len : s.2.length ≤ b
theorem net_order (h : Ma c m) : WellOk (orderW m c).1 ∧ OrdOk m (netO c m) := by
  have z := order_facts (m := m) h.1 (by have := h.2.1; omega) (rng 0 m.toNat) [] (by simp)
  exact ⟨z.1, ord_of (by have := h.2.1; omega) z.2⟩
theorem len_B {o : List Int} {ps : List Wire} : (gB k o ps).length ≤ ps.length + 1 ∧ ps.length ≤ (gB k o ps).length := by
  unfold gB
  split
  · rw [List.length_append]
    exact ⟨Nat.le_refl _, Nat.le_add_right _ _⟩
  · exact ⟨by omega, Nat.le_refl _⟩
theorem gp_C {b : Nat} {s : Well × List Wire} (h : GP m b s) : GP m b (gC m k s) := by
  unfold gC
  split
  · exact ⟨draw_ok h.w, pairs_sub h.ok fun p hp => (List.eraseIdx_sublist _ _).subset hp, Nat.le_trans (List.length_eraseIdx_le _ _) h.len⟩
  · exact h
theorem gp_D {b : Nat} {s : Well × List Wire} (h2 : 2 ≤ m) (h6 : m ≤ 6) (h : GP m b s) : GP m (b + 15) (gD m k s) := by
  unfold gD
  split
  · have p := pick_facts (n := 3) h.w (mesh m)
    have ml := net_len (mesh_ok (m := m) ⟨by omega, h6⟩) h6
    have pl := p.2.length_le
    refine ⟨p.1, pairs_app h.ok (pairs_sub (mesh_pairs h2) fun q hq => p.2.subset hq), ?_⟩
    have hl := h.len
    have e : (s.2 ++ (pickW 3 s.1 (mesh m)).2).length = s.2.length + (pickW 3 s.1 (mesh m)).2.length := List.length_append
    show (s.2 ++ (pickW 3 s.1 (mesh m)).2).length ≤ b + 15
    omega
  · exact ⟨h.w, h.ok, by have := h.len; omega⟩
theorem net_s (h : Ma c m) : GP m 21 (netS c m) := by
  obtain ⟨ho1, ho2⟩ := net_order h
  obtain ⟨hc, h2, h6⟩ := h
  have l0 := len_A (k := netK c m) ho2 h2 (len_0 (o := netO c m))
  have lb := len_B (k := netK c m) (o := netO c m) (ps := gA (netK c m) (netO c m) (pairs0 m (netO c m)))
  exact gp_D (b := 6) h2 h6 (gp_C ⟨draw_ok ho1, pairs_B ho2 h2 (pairs_A ho2 (pairs_0 ho2)), by show (gB _ _ _).length ≤ 6; omega⟩)
theorem gE_mem {ps : List Wire} : (∀ p ∈ gE k ps, p ∈ ps) ∧ (gE k ps).length ≤ ps.length := by
  unfold gE
  split
  · exact ⟨fun p hp => by unfold cutX at hp; exact List.mem_of_mem_drop (List.mem_of_mem_take hp), cutX_len _ _ _⟩
  · exact ⟨fun p hp => hp, Nat.le_refl _⟩
theorem pl_inj2 {p q : Wire} (h : pl p = pl q) : p = q := by
  unfold pl at h
  have h1 := List.cons.inj h
  have h2 := List.cons.inj h1.2
  exact Prod.ext h1.1 h2.1
theorem net_sorted {ps : List Wire} (h : PairsIn m ps) : NetOk m (ssortW (ps.map ord2)) := by
  refine ⟨fun p hp => ?_, ?_⟩
  · have z : pl p ∈ (ssortW (ps.map ord2)).map pl := List.mem_map_of_mem hp
    rw [ssortW_pl, mem_ssort, List.map_map] at z
    obtain ⟨q, hq, e⟩ := List.mem_map.mp z
    have e2 : p = ord2 q := (pl_inj2 e).symm
    obtain ⟨q1, q2, q3⟩ := h q hq
    subst e2
    unfold ord2 WireOk
    exact ⟨by show 0 ≤ min q.1 q.2; omega, by show min q.1 q.2 < max q.1 q.2; omega, by show max q.1 q.2 < m; omega⟩
  · have z := ssort_lt ((ps.map ord2).map pl)
    rw [← ssortW_pl, List.pairwise_map] at z
    exact z
theorem net_in (h : Ma c m) : WellOk (netW c m).2 ∧ NetOk m (netW c m).1 := by
  have z := net_s h
  exact ⟨z.w, net_sorted (pairs_sub z.ok fun p hp => gE_mem.1 p hp)⟩
end
/-! ### the thinned net -/
section
variable {c : Well} {m : Int} {fe : List Lot}
theorem rest_eq {ws : List Wire} {a : Int} (h : 0 ≤ a) : restW ws a = ws.take a.toNat ++ ws.drop (a.toNat + 1) := by
  unfold restW
  rw [cut_take h, cut_drop (by omega), show (a + 1).toNat = a.toNat + 1 by omega]
theorem rest_sub {ws : List Wire} {a : Int} (h : 0 ≤ a) : (restW ws a).Sublist ws := by
  rw [rest_eq h]
  have z : (ws.take a.toNat ++ ws.drop (a.toNat + 1)).Sublist (ws.take a.toNat ++ ws.drop a.toNat) := List.Sublist.append (List.Sublist.refl _) (by
    rw [show ws.drop (a.toNat + 1) = (ws.drop a.toNat).drop 1 by rw [List.drop_drop]]
    exact List.drop_sublist _ _)
  rwa [List.take_append_drop] at z
theorem bare_divided (h2 : 2 ≤ m) (hf : [] ∈ fe) : divided m [] fe ≠ [] := by
  intro e
  have hd : dividedBy m [] [] = true := by
    have l : (others m []).length = m.toNat := by
      unfold others
      rw [List.filter_eq_self.mpr (fun x _ => by simp), rng_len]
    have j : (joined [] [] (at' (others m []) 0)).length = 1 := rfl
    unfold dividedBy
    rw [l, j]
    simp
    omega
  have z : [] ∈ divided m [] fe := List.mem_filter.mpr ⟨hf, hd⟩
  rw [e] at z
  simp at z
structure TH (m : Int) (s : Well × List Wire) : Prop where
  w : WellOk s.1
  net : NetOk m s.2
  ne : s.2 ≠ []
theorem NetOk.sublist {ws rs : List Wire} (h : NetOk m ws) (s : rs.Sublist ws) : NetOk m rs := ⟨fun p hp => h.1 p (s.subset hp), h.2.sublist s⟩
theorem thin_step {s : Well × List Wire} {t : Int} (h2 : 2 ≤ m) (hf : [] ∈ fe) (h : TH m s) : TH m (thinStep m fe s t) := by
  have hn : 0 < (s.2.length : Int) := by
    have := List.length_pos_iff.mpr h.ne
    omega
  have a0 := fmod_lo (a := t + (drawW s.1 (s.2.length : Int)).1) hn
  refine ⟨draw_ok h.w, ?_, ?_⟩
  · show NetOk m (if _ then _ else _)
    split
    · exact h.net.sublist (rest_sub a0)
    · exact h.net
  · show (if _ then _ else _) ≠ []
    split
    · rename_i hd
      intro e
      rw [e] at hd
      exact bare_divided h2 hf hd
    · exact h.ne
theorem thin_snoc (pre : List Int) (t : Int) : thinS c m fe (pre ++ [t]) = thinStep m fe (thinS c m fe pre) t := by
  unfold thinS
  rw [List.foldl_append]
  rfl
theorem mesh_ne (h2 : 2 ≤ m) : mesh m ≠ [] := fun e => by
  have z : ((0, 1) : Wire) ∈ mesh m := (mem_mesh (by omega)).mpr ⟨by show (0 : Int) ≤ 0; omega, by show (0 : Int) < 1; omega, by show (1 : Int) < m; omega⟩
  rw [e] at z
  simp at z
theorem thin_facts (hc : WellOk c) (h2 : 2 ≤ m) (h6 : m ≤ 6) (hf : [] ∈ fe) (ts : List Int) : TH m (thinS c m fe ts) := by
  refine snoc_ind (p := fun ts => TH m (thinS c m fe ts)) ⟨hc, mesh_ok ⟨by omega, h6⟩, mesh_ne h2⟩ (fun pre t ih => ?_) ts
  rw [thin_snoc]
  exact thin_step h2 hf ih
theorem thin_in {f : Lst Lot} (h : Ma c m) (hf : [] ∈ f.l) : WellOk (thinW c m f).2 ∧ NetOk m (thinW c m f).1 := by
  have z := thin_facts (draw_ok (n := 12 - 2 * m) h.1) h.2.1 h.2.2 hf (thinTs c m)
  exact ⟨z.w, z.net⟩
theorem nil_feared {fs : List Lot} (h0 : 0 ≤ m) (hf : FearsOk m fs) : [] ∈ lawFeared m fs := by
  obtain ⟨f, hf2⟩ := List.exists_mem_of_ne_nil _ hf.1
  exact (mem_lawFeared h0).mpr ⟨lot_nil, f, hf2, rfl⟩
end
/-! ### the well -/
theorem log_lt {x b : Nat} (h : x.log2 ≤ b) : x < 2 ^ (b + 1) := by
  by_cases z : x = 0
  · subst z
    exact Nat.pow_pos (by decide)
  · exact (Nat.log2_lt z).mp (by omega)
theorem log_le {x b : Nat} (h : x < 2 ^ (b + 1)) : x.log2 ≤ b := by
  by_cases z : x = 0
  · subst z
    rw [Nat.log2_zero]
    omega
  · have := (Nat.log2_lt z).mpr h
    omega
theorem pool_bound {b e : Nat} (hb : b ≤ e) {p x : Int} (hp : p.natAbs < 2 ^ e) (hx : x.natAbs < 2 ^ b) : (poolStep p x).natAbs < 2 ^ (e + 20) := by
  have h1 : (2 : Nat) ^ b ≤ 2 ^ e := Nat.pow_le_pow_right (by decide) hb
  have h2 : (2 : Nat) ^ (e + 20) = 2 ^ e * 1048576 := Nat.pow_add 2 e 20
  rw [h2]
  generalize (2 : Nat) ^ e = E at *
  generalize (2 : Nat) ^ b = B at *
  unfold poolStep
  by_cases h : x < 0
  · rw [if_pos h, if_pos (decide_eq_true h)]
    omega
  · rw [if_neg h, if_neg (by rw [decide_eq_false h]; simp)]
    omega
theorem pool_pos {p x : Int} (hp : 0 ≤ p) : 0 ≤ poolStep p x := by
  unfold poolStep
  by_cases h : x < 0
  · rw [if_pos h, if_pos (decide_eq_true h)]
    omega
  · rw [if_neg h, if_neg (by rw [decide_eq_false h]; simp)]
    omega
theorem pool_facts {b : Nat} : ∀ (xs : List Int) (h : ∀ x ∈ xs, x.natAbs < 2 ^ b), 0 ≤ poolW xs ∧ (poolW xs).natAbs < 2 ^ (b + 20 * xs.length) := by
  intro xs
  refine snoc_ind (p := fun xs => (∀ x ∈ xs, x.natAbs < 2 ^ b) → 0 ≤ poolW xs ∧ (poolW xs).natAbs < 2 ^ (b + 20 * xs.length)) (fun _ => ⟨Int.le_refl 0, Nat.pow_pos (by decide)⟩) (fun pre x ih h => ?_) xs
  obtain ⟨i1, i2⟩ := ih fun y hy => h y (List.mem_append_left _ hy)
  have e : poolW (pre ++ [x]) = poolStep (poolW pre) x := by
    unfold poolW
    rw [List.foldl_append]
    rfl
  rw [e]
  refine ⟨pool_pos i1, ?_⟩
  have z := pool_bound (b := b) (e := b + 20 * pre.length) (by omega) i2 (h x (by simp))
  rw [List.length_append]
  show _ < 2 ^ (b + 20 * (pre.length + 1))
  rw [show b + 20 * (pre.length + 1) = b + 20 * pre.length + 20 by omega]
  exact z
theorem pool_log {xs pre post : List Int} (h : ScriptOk xs) (e : xs = pre ++ post) : 0 ≤ poolW pre ∧ (poolW pre).natAbs.log2 ≤ 3000000 := by
  obtain ⟨h1, h2⟩ := h
  have z := pool_facts (b := 2000001) pre fun x hx => log_lt (h2 x (by rw [e]; exact List.mem_append_left _ hx))
  refine ⟨z.1, log_le (Nat.lt_of_lt_of_le z.2 (Nat.pow_le_pow_right (by decide) ?_))⟩
  have := congrArg List.length e
  rw [List.length_append] at this
  omega
theorem well_ok {xs : List Int} (h : ScriptOk xs) : WellOk (wellW xs) := by
  unfold wellW
  split
  · exact ⟨Int.le_refl _, Int.le_refl _, by decide⟩
  · have z := (pool_log h (List.append_nil xs).symm).1
    have a := fmod_lo (a := poolW xs + 5003 * (xs.length : Int)) (b := 2147483497) (by decide)
    have b := fmod_lt (a := poolW xs + 5003 * (xs.length : Int)) (b := 2147483497) (by decide)
    exact ⟨z, by show (0 : Int) ≤ 1 + _; omega, by show 1 + _ ≤ (2147483497 : Int); omega⟩
end Mi
/-! ## Run16 -/
namespace Dy
open PySem L2 PyProof.Rows Mi
local macro_rules | `(tactic| trivial) => `(tactic| (repeat (first | exact Le.stop | apply Le.same | apply Le.drop)); done)
section
variable {P : Program} {w : World} {K : Fg} {mg : Str → Option Value} {base : Heap}
theorem ev_w0 {Γ : Ctx} {n : Nat} {m : Option Addr} {c : Well} (h : Γ[n]? = some (.ow m (lstP (wellL c)))) : Ev K (tOp (rIxU K) (tVar n) (tC (.int 0))) Γ c.1 := ev_at (xs := wellL c) (Ev.sqL (ev_ow h)) ev_int (show (0 : Int) ≤ 0 ∧ (0 : Int) < ((2 : Nat) : Int) by decide)
theorem ev_w1 {Γ : Ctx} {n : Nat} {m : Option Addr} {c : Well} (h : Γ[n]? = some (.ow m (lstP (wellL c)))) : Ev K (tOp (rIxU K) (tVar n) (tC (.int 1))) Γ c.2 := ev_at (xs := wellL c) (Ev.sqL (ev_ow h)) ev_int (show (0 : Int) ≤ 1 ∧ (1 : Int) < ((2 : Nat) : Int) by decide)
theorem log_of {i : Int} (h0 : 0 ≤ i) (h1 : i ≤ 2147483497) : i.natAbs.log2 ≤ 40 := log_le (Nat.lt_of_lt_of_le (show i.natAbs < 2147483498 by omega) (by decide))
theorem run__law_well (x1 : Scr) (hp : ScriptOk x1.l) : Run K (rd__law_well P w K) [.bs x1, .any, .any] (.ret (Lst.mk (wellL (wellW x1.l))) []) := by
  obtain ⟨xs⟩ := x1
  have hp : ScriptOk xs := hp
  refine r_seq (r_set ev_int) ?_
  refine r_for (P := fun _ => True) (S := fun pre => [.bs (Scr.mk xs), .fz (poolW pre), .any]) (ef_scr (x := ⟨xs⟩) rfl) (by trivial) True.intro (fun pre x => eg_name) (fun pre x post e _ => .inr ⟨True.intro, ?_⟩) fun _ => ?_
  · have e : xs = pre ++ x :: post := e
    have pl := pool_log hp e
    have hx := hp.2 x (by rw [e]; simp)
    have e2 : poolW (pre ++ [x]) = poolStep (poolW pre) x := by
      unfold poolW
      rw [List.foldl_append]
      rfl
    rw [e2]
    refine r_le (r_set (ev_addI (ev_addI (ev_mulI (ev_fz rfl) ev_int ?_) (ev_mulI ev_int (ev_abs (ev_intI (ev_fz rfl))) ?_)) (ev_intB (ev_lt (ev_fz rfl) ev_int)))) (by trivial)
    · show (poolW pre).natAbs.log2 + (120011 : Nat).log2 < 100000000
      have : (120011 : Nat).log2 = 16 := by decide +kernel
      omega
    · show (2 : Nat).log2 + (if x < 0 then -x else x).natAbs.log2 < 100000000
      have : (2 : Nat).log2 = 1 := by decide +kernel
      have e : (if x < 0 then -x else x).natAbs = x.natAbs := by split <;> omega
      rw [e]
      omega
  · refine r_ifS (et_test (ev_eqU (α := Int) (ev_lenS (ev_bs rfl)) ev_int)) (fun h1 => r_seqR ?_) (fun h1 => r_skip ?_)
    · have q : ((xs.length : Nat) : Int) = 0 := of_decide_eq_true h1
      have z : xs.length = 0 := by omega
      have e : wellW xs = (0, 0) := if_pos z
      rw [e]
      exact r_retN (ev_lst (eal_cons ev_int (eal_cons ev_int eal_nil)))
    · have q : ¬ ((xs.length : Nat) : Int) = 0 := of_decide_eq_false h1
      have z : xs.length ≠ 0 := by omega
      have e : wellW xs = (poolW xs, 1 + (poolW xs + 5003 * (xs.length : Int)).fmod 2147483497) := if_neg z
      rw [e]
      refine r_retN (ev_lst (eal_cons (ev_fz rfl) (eal_cons (ev_addI ev_int (ev_mod (ev_intI (ev_addI (ev_fz rfl) (ev_mulI ev_int (ev_lenS (ev_bs rfl)) ?_))) ev_int (by decide))) eal_nil)))
      show (5003 : Nat).log2 + ((xs.length : Nat) : Int).natAbs.log2 < 100000000
      rw [Int.natAbs_natCast]
      have : (5003 : Nat).log2 = 12 := by decide +kernel
      have : xs.length.log2 ≤ 40 := log_le (Nat.lt_of_le_of_lt hp.1 (by decide))
      omega
theorem run__law_draw (l : Addr) (c : Well) (n : Int) (hp : WellOk c ∧ n ≤ 1000) : Run K (rd__law_draw P w K) [.ow (some l) (lstP (wellL c)), .fz n, .any] (.ret (drawW c n).1 [.ow (some l) (lstP (wellL (drawW c n).2))]) := by
  obtain ⟨⟨h1, h2, h3⟩, h4⟩ := hp
  refine r_ifS (et_or (et_test (ev_lt (ev_fz rfl) ev_int)) (fun _ => (et_test (ev_eqU (α := Int) (ev_w1 rfl) ev_int)))) (fun q => r_seqR ?_) (fun q => r_skip ?_)
  · have e : drawW c n = (0, c) := if_pos (by
      rcases (Bool.or_eq_true _ _ |>.mp q) with z | z
      · exact .inl (of_decide_eq_true z)
      · exact .inr (of_decide_eq_true z))
    rw [e]
    exact r_retE (Ev.pure ev_int) (by trivial)
  · have q := (Bool.or_eq_false_iff.mp q)
    have n2 : ¬ n < 2 := of_decide_eq_false q.1
    have c2 : ¬ c.2 = 0 := of_decide_eq_false q.2
    have dn : CDivW c.1 n := ⟨by omega, Nat.lt_of_le_of_lt (log_of (by omega) (by omega)) (by decide)⟩
    refine r_ifS (et_test (ev_gt (ev_w0 rfl) ev_int)) (fun q1 => r_seqR ?_) (fun q1 => r_skip ?_)
    · have g : 16777216 < c.1 := of_decide_eq_true q1
      have e : drawW c n = (c.1.fmod n, (c.1 / n, c.2)) := by
        unfold drawW
        rw [if_neg (by omega), if_pos g]
      rw [e]
      refine r_seq (r_set (ev_mod (ev_intI (ev_w0 rfl)) (ev_fz rfl) (by omega))) ?_
      refine r_seq (r_setIx (xs := wellL c) (Ev.pure (ev_fdiv (ev_w0 rfl) (ev_fz rfl) dn)) (Ev.pure ev_int) rfl rfl (show (0 : Int) ≤ 0 ∧ (0 : Int) < ((2 : Nat) : Int) by decide)) ?_
      exact r_retE (Ev.pure (ev_fz rfl)) (by trivial)
    · have g : ¬ 16777216 < c.1 := of_decide_eq_false q1
      have e : drawW c n = (((1 + (c.2 * 46021 + c.1 + 23333).fmod 2147483497) / 1409).fmod n, (c.1, 1 + (c.2 * 46021 + c.1 + 23333).fmod 2147483497)) := by
        unfold drawW
        rw [if_neg (by omega), if_neg g]
      rw [e]
      refine r_seq (r_setIx (xs := wellL c) (Ev.pure (ev_addI ev_int (ev_mod (ev_intI (ev_addI (ev_addI (ev_mulI (ev_w1 rfl) ev_int ?_) (ev_w0 rfl)) ev_int)) ev_int (by decide)))) (Ev.pure ev_int) rfl rfl (show (0 : Int) ≤ 1 ∧ (1 : Int) < ((2 : Nat) : Int) by decide)) ?_
      · show c.2.natAbs.log2 + (46021 : Nat).log2 < 100000000
        have : (46021 : Nat).log2 = 15 := by decide +kernel
        have := log_of h2 h3
        omega
      · exact r_retE (Ev.pure (ev_mod (ev_intI (ev_fdiv (ev_w1 (c := (c.1, 1 + (c.2 * 46021 + c.1 + 23333).fmod 2147483497)) rfl) ev_int ⟨by decide, by decide +kernel⟩)) (ev_fz rfl) (by omega))) (by trivial)
end
end Dy
/-! ## Run17 -/
namespace Dy
open PySem L2 PyProof.Rows Mi
local macro_rules | `(tactic| trivial) => `(tactic| (repeat (first | exact Le.stop | apply Le.same | apply Le.drop)); done)
section
variable {P : Program} {w : World} {K : Fg} {mg : Str → Option Value} {base : Heap}
abbrev FS (l : Addr) (m k : Int) (s : Well × List Lot) : Ctx := [.ow (some l) (lstP (wellL s.1)), .fz m, .fz k, .ol s.2, .any, .any, .any, .any]
theorem ee_draw {Γ : Ctx} {te : TE} {i : Int} {n : Nat} {m : Option Addr} {c : Well} (hw : Γ[n]? = some (.ow m (lstP (wellL c)))) (h : Ev K te Γ i) (hc : WellOk c) (hi : i ≤ 1000) : EvE K (tCall (sp__law_draw K) [] E0 (tCons (tVar n) (tCons te tNil))) Γ (drawW c i).1 (Γ.set n (.ow m (lstP (wellL (drawW c i).2)))) := ee_dsp1 hw h ⟨hc, hi⟩
theorem kind_len {m k : Int} (h : k = 1) : (kindLots m k).length = m.toNat := by
  unfold kindLots
  rw [if_pos (by rw [h]; decide), List.length_map, rng_len]
theorem run_fears_A (l : Addr) (m k : Int) (c : Well) (hm : 2 ≤ m ∧ m ≤ 6) (h : FL m 6 (c, kindLots m k)) : Run K (tIfS (tTest (tOp (rEqU K) (tVar 2) (tC (.int 1)))) (tAsg (tTup tNil) (gSub (tVar 3) (tCall (sp__law_draw K) [] E0 (tCons (tVar 0) (tCons (tVar 1) tNil))) rSetL)) tNext) (FS l m k (c, kindLots m k)) (.next (FS l m k (fA m k (c, kindLots m k))) : Out (List Lot)) := by
  refine r_if (et_test (ev_eqU (α := Int) (ev_fz rfl) ev_int)) (fun q => ?_) (fun q => ?_)
  · have q := of_decide_eq_true q
    have e : fA m k (c, kindLots m k) = ((drawW c m).2, (kindLots m k).set (drawW c m).1.toNat []) := if_pos q
    rw [e]
    refine r_le (r_setIx (xs := kindLots m k) (x := ([] : Lot)) (Ev.pure (ev_tup eal_nil)) (ee_draw rfl (ev_fz rfl) h.w (by omega)) rfl rfl ⟨draw_lo, ?_⟩) (by trivial)
    have := draw_lt (c := c) (n := m) (by omega)
    rw [kind_len q]
    show (drawW c m).1 < _
    omega
  · have e : fA m k (c, kindLots m k) = (c, kindLots m k) := if_neg (of_decide_eq_false q)
    rw [e]
    exact r_next
theorem run_fears_B (l : Addr) (m k : Int) (s : Well × List Lot) (hm : 2 ≤ m ∧ m ≤ 6) (h : FL m 6 s) : Run K (tIfS (tOr (tTest (tOp (rEqU K) (tVar 2) (tC (.int 2)))) (tTest (tOp (rEqU K) (tVar 2) (tC (.int 3))))) (tFor (iRng1 (tCons (tOp (rAddU K) (tC (.int 1)) (tCall (sp__law_draw K) [] E0 (tCons (tVar 0) (tCons (tC (.int 3)) tNil)))) tNil)) (gName 4) (tDrop (tBM K "list" rAppend (tVar 3) (tCons (tCB (rTupQ K) (tCons (tLc (iRng1 (tCons (tVar 1) tNil)) (gName 6) (tTest (tOp (rEqU K) (tCall (sp__law_draw K) [] E0 (tCons (tVar 0) (tCons (tC (.int 2)) tNil))) (tC (.int 1)))) (tVar 6) [6]) tNil)) tNil)))) tNext) (FS l m k s) (.next (FS l m k (fB m k s)) : Out (List Lot)) := by
  refine r_if (et_or (et_test (ev_eqU (α := Int) (ev_fz rfl) ev_int)) (fun _ => et_test (ev_eqU (α := Int) (ev_fz rfl) ev_int))) (fun q => ?_) (fun q => ?_)
  · have q : k = 2 ∨ k = 3 := (Bool.or_eq_true _ _ |>.mp q).imp of_decide_eq_true of_decide_eq_true
    have e : fB m k s = (rng 0 (1 + (drawW s.1 3).1).toNat).foldl (subStep m) ((drawW s.1 3).2, s.2) := if_pos q
    rw [e]
    have d0 := draw_lo (c := s.1) (n := 3)
    have d1 := draw_lt (c := s.1) (n := 3) (by decide)
    refine r_forE (S := fun pre => FS l m k (pre.foldl (subStep m) ((drawW s.1 3).2, s.2))) (T := fun pre x => (FS l m k (pre.foldl (subStep m) ((drawW s.1 3).2, s.2))).set 4 (.fz x)) (efe_rng1 (ee_add (Ev.pure ev_int) (ee_draw rfl ev_int h.w (by decide))) (by omega)) (by trivial) (fun pre x => eg_name) (fun pre x post ex => ?_)
    have fl := fl_sub (m := m) (by omega) pre (b := 6) (s := ((drawW s.1 3).2, s.2)) ⟨draw_ok h.w, h.ne, h.len, h.ok⟩
    have pl : pre.length ≤ 3 := by
      have z := congrArg List.length ex
      rw [rng_len, List.length_append, List.length_cons] at z
      omega
    have es : (pre ++ [x]).foldl (subStep m) ((drawW s.1 3).2, s.2) = subStep m (pre.foldl (subStep m) ((drawW s.1 3).2, s.2)) x := by
      rw [List.foldl_append]
      rfl
    rw [es]
    generalize pre.foldl (subStep m) ((drawW s.1 3).2, s.2) = u at fl ⊢
    refine r_le (r_appE (xs := u.2) rfl (ee_tupL (ee_lc (xs := rng 0 m.toNat) (S := fun pr => (FS l m k ((pickW 2 u.1 pr).1, u.2)).set 4 (.fz x)) (T := fun pr y => ((FS l m k ((pickW 2 u.1 pr).1, u.2)).set 4 (.fz x)).set 6 (.fz y)) (T2 := fun pr y => ((FS l m k ((drawW (pickW 2 u.1 pr).1 2).2, u.2)).set 4 (.fz x)).set 6 (.fz y)) (pk := fun pr y => decide ((drawW (pickW 2 u.1 pr).1 2).1 = 1)) (f := fun (y : Int) => y) (acc := fun pr => (pickW 2 u.1 pr).2)
      (EvF.pure (ef_rng1 (ev_fz rfl) (by omega))) (by rw [rng_len]; unfold LIM; omega) (fun pr y => eg_name) (fun pr y po ey => te_eq (ee_draw rfl ev_int (pick_facts fl.w pr).1 (by decide)) ev_int) (fun pr y => ev_fz rfl) (fun pr y => ?_) rfl (fun pr y => ?_))) rfl ?_) (by trivial)
    · rw [pick_snoc]
      show Le _ _
      trivial
    · rw [pick_snoc]
      rfl
    · have := fl.len
      unfold LIM
      omega
  · have q := Bool.or_eq_false_iff.mp q
    have e : fB m k s = s := if_neg fun z => z.elim (of_decide_eq_false q.1) (of_decide_eq_false q.2)
    rw [e]
    exact r_next
theorem run_fears_C (l : Addr) (m k : Int) (s : Well × List Lot) (hm : 2 ≤ m ∧ m ≤ 6) (h : FL m 9 s) : Run K (tIfS (tTest (tOp (rEqU K) (tVar 2) (tC (.int 3)))) (tDrop (tBM K "list" rAppend (tVar 3) (tCons (tCall (sp__law_others K) [] E0 (tCons (tVar 1) (tCons (tOp (rIxU K) (tVar 3) (tUn (rU fun i => V.int (-i)) (tC (.int 1)))) tNil))) tNil))) tNext) (FS l m k s) (.next (FS l m k (fC m k s)) : Out (List Lot)) := by
  refine r_if (et_test (ev_eqU (α := Int) (ev_fz rfl) ev_int)) (fun q => ?_) (fun q => ?_)
  · have e : fC m k s = (s.1, s.2 ++ [others m (lastD s.2)]) := if_pos (of_decide_eq_true q)
    rw [e]
    have hl := h.len
    refine r_le (r_app (xs := s.2) rfl (EvN.ev (ev_sp2 (ea_cons (ev_fz rfl) (ea_cons (ev_last (Ev.sqL (ev_ow rfl)) (List.length_pos_iff.mpr h.ne)) ea_nil)) (by omega))) (by unfold LIM; omega)) (by trivial)
  · have e : fC m k s = s := if_neg (of_decide_eq_false q)
    rw [e]
    exact r_next
theorem run_fears_D (l : Addr) (m k : Int) (s : Well × List Lot) (hm : 2 ≤ m ∧ m ≤ 6) (h : FL m 10 s) : Run K (tIfS (tTest (tOp (rEqU K) (tVar 2) (tC (.int 4)))) (tSeq (tAsg (tCall (sp__law_draw K) [] E0 (tCons (tVar 0) (tCons (tVar 1) tNil))) (gName 5)) (tAsg (tLc (iSeq K (tCall (sp__law_lots K) [] E0 (tCons (tVar 1) tNil))) (gName 7) (tTest (tOp (rEqU K) (tCB (rLenQ K) (tCons (tVar 7) tNil)) (tVar 5))) (tVar 7) [7]) (gName 3))) tNext) (FS l m k s) (.next (FS l m k (fD m k s)) : Out (List Lot)) := by
  refine r_if (et_test (ev_eqU (α := Int) (ev_fz rfl) ev_int)) (fun q => ?_) (fun q => ?_)
  · have e : fD m k s = ((drawW s.1 m).2, (lots m).filter fun l => decide ((l.length : Int) = (drawW s.1 m).1)) := if_pos (of_decide_eq_true q)
    rw [e]
    refine r_seq (r_setE (ee_draw rfl (ev_fz rfl) h.w (by omega))) ?_
    refine r_le (r_setL (xs := (lots m).filter fun l => decide ((l.length : Int) = (drawW s.1 m).1)) (EvN.is (ev_lc (f := fun (y : Lot) => y) (ei_seq (Ev.sqL (EvN.ev (ev_sp1 (ea_cons (ev_fz rfl) ea_nil) (by omega))))) (fun x hx => eg_name) (fun x hx => et_test (ev_eqU (α := Int) (ev_len (Ev.sqT (ev_fz rfl))) (ev_fz rfl))) (fun x hx hp => ev_fz rfl)) (by rw [List.map_id']))) (by trivial)
  · have e : fD m k s = s := if_neg (of_decide_eq_false q)
    rw [e]
    exact r_next
theorem run_fears_E (l : Addr) (m k : Int) (s : Well × List Lot) (hm : 2 ≤ m ∧ m ≤ 6) (h : FL m 20 s) : Run K (tIfS (tTest (tOp (rEqU K) (tVar 2) (tC (.int 5)))) (tDrop (tBM K "list" rAppend (tVar 3) (tCons (tTup (tCons (tCall (sp__law_draw K) [] E0 (tCons (tVar 0) (tCons (tVar 1) tNil))) tNil)) tNil))) tNext) (FS l m k s) (.next (FS l m k (fE m k s)) : Out (List Lot)) := by
  refine r_if (et_test (ev_eqU (α := Int) (ev_fz rfl) ev_int)) (fun q => ?_) (fun q => ?_)
  · have e : fE m k s = ((drawW s.1 m).2, s.2 ++ [[(drawW s.1 m).1]]) := if_pos (of_decide_eq_true q)
    rw [e]
    have hl := h.len
    exact r_le (r_appE (xs := s.2) rfl (ee_tup1 (ee_draw rfl (ev_fz rfl) h.w (by omega))) rfl (by unfold LIM; omega)) (by trivial)
  · have e : fE m k s = s := if_neg (of_decide_eq_false q)
    rw [e]
    exact r_next
theorem run__law_fears (l : Addr) (c : Well) (m : Int) (hp : Ma c m) : Run K (rd__law_fears P w K) [.ow (some l) (lstP (wellL c)), .fz m, .any, .any, .any, .any, .any, .any] (.ret (fearsW c m).1 [.ow (some l) (lstP (wellL (fearsW c m).2))]) := by
  have ff := fears_facts hp
  obtain ⟨hc, h2, h6⟩ := hp
  refine r_seq (r_setE (ee_draw rfl ev_int hc (by decide))) ?_
  unfold fearsW
  dsimp only
  unfold fearsS at ff ⊢
  have hw := draw_ok (n := 8) hc
  generalize (drawW c 8).2 = c1 at hw ff ⊢
  generalize (drawW c 8).1 = k at ff ⊢
  refine r_seq (r_setL (xs := [([] : Lot)]) (ev_lst (eal_cons (ev_tup eal_nil) eal_nil))) ?_
  refine r_seq (Γ1 := FS l m k (c1, kindLots m k)) ?_ ?_
  · refine r_if (et_test (ev_in (x := k) (xs := ([0, 1, 7] : List Int)) (ev_fz rfl) (Ev.sqT (ev_tup (eal_cons ev_int (eal_cons ev_int (eal_cons ev_int eal_nil))))))) (fun q => ?_) (fun q => ?_)
    · have e : kindLots m k = (rng 0 m.toNat).map fun h => [h] := if_pos (of_decide_eq_true q)
      rw [e]
      exact r_le (r_setL (xs := (rng 0 m.toNat).map fun h => [h]) (ev_lcA (f := fun (h : Int) => [h]) (ei_rng1 (ev_fz rfl) (by omega)) (fun x hx => eg_name) (fun x hx => ev_tup (eal_cons (ev_fz rfl) eal_nil)))) (by trivial)
    · have e : kindLots m k = [[]] := if_neg (of_decide_eq_false q)
      rw [e]
      exact r_next
  have f0 := fl_kind (k := k) hw h2 h6
  have fa := fl_A (k := k) f0
  have fb := fl_B (k := k) (by omega) fa
  have fc := fl_C (k := k) fb
  have fd := FL.up (fl_D (k := k) h2 h6 fc) (show (if k = 4 then 20 else 10) ≤ 20 by split <;> omega)
  refine r_seq (run_fears_A l m k c1 ⟨h2, h6⟩ f0) ?_
  refine r_seq (run_fears_B l m k _ ⟨h2, h6⟩ fa) ?_
  refine r_seq (run_fears_C l m k _ ⟨h2, h6⟩ fb) ?_
  refine r_seq (run_fears_D l m k _ ⟨h2, h6⟩ fc) ?_
  refine r_seq (run_fears_E l m k _ ⟨h2, h6⟩ fd) ?_
  exact r_retE (Ev.pure (EvN.ev (ev_sp1 (ea_cons (ev_ow rfl) ea_nil) ⟨Few.len (Nat.le_trans ff.len (by decide)), Nat.le_trans ff.len (by decide)⟩))) (by trivial)
end
end Dy
/-! ## Run18 -/
namespace Dy
open PySem L2 PyProof.Rows Mi
local macro_rules | `(tactic| trivial) => `(tactic| (repeat (first | exact Le.stop | apply Le.same | apply Le.drop)); done)
section
variable {P : Program} {w : World} {K : Fg} {mg : Str → Option Value} {base : Heap}
/-- 0 well, 1 houses, 2 order, 5 kind, 6 pairs -/
abbrev NS (l : Addr) (m : Int) (o : List Int) (k : Int) (c : Well) (ps : List Wire) : Ctx := [.ow (some l) (lstP (wellL c)), .fz m, .ol o, .any, .any, .fz k, .ol ps, .any, .any, .any, .any]
theorem run_net_order (l : Addr) (m : Int) (c : Well) (hm : Ma c m) : Run K (tFor (iRng1 (tCons (tVar 1) tNil)) (gName 3) (tSeq (tAsg (tCB (rIntQ) (tCons (tOp (rAddU K) (tVar 3) (tCall (sp__law_draw K) [] E0 (tCons (tVar 0) (tCons (tOp (rI0 fun i j => V.int (i - j)) (tVar 1) (tVar 3)) tNil)))) tNil)) (gName 4)) (tAsg (tOp (rAddU K) (tOp (rAddU K) (tOp (rAddU K) (tSl (rSlU K) (tVar 2) tNoPart (tPart (tVar 3))) (tLst (tCons (tOp (rIxU K) (tVar 2) (tVar 4)) tNil))) (tSl (rSlU K) (tVar 2) (tPart (tVar 3)) (tPart (tVar 4)))) (tSl (rSlU K) (tVar 2) (tPart (tOp (rAddU K) (tVar 4) (tC (.int 1)))) tNoPart)) (gName 2))))
    [.ow (some l) (lstP (wellL c)), .fz m, .ol (rng 0 m.toNat), .any, .any, .any, .any, .any, .any, .any, .any] (.next [.ow (some l) (lstP (wellL (orderW m c).1)), .fz m, .ol (orderW m c).2, .any, .any, .any, .any, .any, .any, .any, .any] : Out (List Wire)) := by
  obtain ⟨hc, h2, h6⟩ := hm
  refine r_forE (S := fun pre => [.ow (some l) (lstP (wellL (pre.foldl (orderStep m) (c, rng 0 m.toNat)).1)), .fz m, .ol (pre.foldl (orderStep m) (c, rng 0 m.toNat)).2, .any, .any, .any, .any, .any, .any, .any, .any]) (EvF.pure (ef_rng1 (ev_fz rfl) (by omega))) (by trivial) (fun pre x => eg_name) (fun pre x post e => ?_)
  obtain ⟨f1, f2⟩ := order_facts hc (by omega) pre (x :: post) e
  have hx : x ∈ rng 0 m.toNat := by rw [e]; simp
  have hx := mem_rng.mp hx
  rw [order_snoc]
  generalize pre.foldl (orderStep m) (c, rng 0 m.toNat) = s at f1 f2 ⊢
  have d0 := draw_lo (c := s.1) (n := m - x)
  have d1 := draw_lt (c := s.1) (n := m - x) (by omega)
  have hl := f2.length_eq
  rw [rng_len] at hl
  refine r_seq (r_setE (ee_int (ee_add (Ev.pure (ev_fz rfl)) (ee_draw rfl (ev_sub (ev_fz rfl) (ev_fz rfl)) f1 (by omega))))) ?_
  refine r_le (r_setL (ev_addL (EvN.ev (ev_addL (EvN.ev (ev_addL (EvN.ev (ev_sliceL (ev_ow rfl) eo_none (eo_some (ev_fz rfl)))) (EvN.ev (ev_lst (eal_cons (ev_at (Ev.sqL (ev_ow rfl)) (ev_fz rfl) (by omega)) eal_nil))) ?_)) (EvN.ev (ev_sliceL (ev_ow rfl) (eo_some (ev_fz rfl)) (eo_some (ev_fz rfl)))) ?_)) (EvN.ev (ev_sliceL (ev_ow rfl) (eo_some (ev_addI (ev_fz rfl) ev_int)) eo_none)) ?_)) (by trivial)
  all_goals
    have c1 := cutX_len s.2 none (some x)
    have c2 := cutX_len s.2 (some x) (some (x + (drawW s.1 (m - x)).1))
    have c3 := cutX_len s.2 (some (x + (drawW s.1 (m - x)).1 + 1)) none
    simp only [List.length_append, List.length_cons, List.length_nil]
    unfold LIM
    omega
theorem run__law_net (l : Addr) (c : Well) (m : Int) (hp : Ma c m) : Run K (rd__law_net P w K) [.ow (some l) (lstP (wellL c)), .fz m, .any, .any, .any, .any, .any, .any, .any, .any, .any] (.ret (netW c m).1 [.ow (some l) (lstP (wellL (netW c m).2))]) := by
  obtain ⟨ho1, ho2⟩ := net_order hp
  have hs := net_s hp
  have hp' := hp
  obtain ⟨hc, h2, h6⟩ := hp
  have hl := ho2.len
  refine r_seq (r_setL (ev_lstRange (ev_fz rfl) (by omega))) ?_
  refine r_seq (r_from (by trivial) (run_net_order l m c hp')) ?_
  refine r_seq (r_setE (ee_draw rfl ev_int ho1 (by decide))) ?_
  unfold netW
  dsimp only
  have l0 := len_0 (m := m) (o := netO c m)
  have la := len_A (k := netK c m) ho2 h2 l0
  have lb := len_B (k := netK c m) (o := netO c m) (ps := gA (netK c m) (netO c m) (pairs0 m (netO c m)))
  unfold netS at hs ⊢
  have hw := draw_ok (n := 6) ho1
  have gp0 : GP m 6 ((drawW (orderW m c).1 6).2, gB (netK c m) (netO c m) (gA (netK c m) (netO c m) (pairs0 m (netO c m)))) := ⟨hw, pairs_B ho2 h2 (pairs_A ho2 (pairs_0 ho2)), by show (gB _ _ _).length ≤ 6; omega⟩
  have gpC := gp_C (k := netK c m) gp0
  change Run K _ [_, _, .ol (netO c m), _, _, .fz (netK c m), _, _, _, _, _] _
  generalize netO c m = o at *
  generalize netK c m = k at *
  generalize (drawW (orderW m c).1 6).2 = c1 at *
  refine r_seq (Γ1 := NS l m o k c1 (pairs0 m o)) ?_ ?_
  · refine r_le (r_setL (xs := pairs0 m o) (ev_lcA (f := fun (k : Int) => (at' o k, at' o (k + 1))) (ei_rng1 (ev_sub (ev_fz rfl) ev_int) (by omega)) (fun x hx => eg_name) (fun x hx => ?_))) (by trivial)
    have hx := mem_rng.mp hx
    exact ev_pair (ev_at (Ev.sqL (ev_ow rfl)) (ev_fz rfl) (by omega)) (ev_at (Ev.sqL (ev_ow rfl)) (ev_addI (ev_fz rfl) ev_int) (by omega))
  refine r_seq (Γ1 := NS l m o k c1 (gA k o (pairs0 m o))) ?_ ?_
  · refine r_if (et_test (ev_eqU (α := Int) (ev_fz rfl) ev_int)) (fun q => ?_) (fun q => ?_)
    · have e : gA k o (pairs0 m o) = (cutX o (some 1) none).map fun h => (at' o 0, h) := if_pos (of_decide_eq_true q)
      rw [e]
      exact r_le (r_setL (xs := (cutX o (some 1) none).map fun h => (at' o 0, h)) (ev_lcA (f := fun (h : Int) => (at' o 0, h)) (ei_seq (Ev.sqL (EvN.ev (ev_sliceL (ev_ow rfl) (eo_some ev_int) eo_none)))) (fun x hx => eg_name) (fun x hx => ev_pair (ev_at (Ev.sqL (ev_ow rfl)) ev_int (by omega)) (ev_fz rfl)))) (by trivial)
    · have e : gA k o (pairs0 m o) = pairs0 m o := if_neg (of_decide_eq_false q)
      rw [e]
      exact r_next
  refine r_seq (Γ1 := NS l m o k c1 (gB k o (gA k o (pairs0 m o)))) ?_ ?_
  · refine r_if (et_or (et_test (ev_eqU (α := Int) (ev_fz rfl) ev_int)) (fun _ => et_test (ev_eqU (α := Int) (ev_fz rfl) ev_int))) (fun q => ?_) (fun q => ?_)
    · have e : gB k o (gA k o (pairs0 m o)) = gA k o (pairs0 m o) ++ [(at' o 0, lastD o)] := if_pos ((Bool.or_eq_true _ _ |>.mp q).imp of_decide_eq_true of_decide_eq_true)
      rw [e]
      exact r_le (r_app (xs := gA k o (pairs0 m o)) rfl (ev_pair (ev_at (Ev.sqL (ev_ow rfl)) ev_int (by omega)) (ev_last (Ev.sqL (ev_ow rfl)) (by omega))) (by unfold LIM; omega)) (by trivial)
    · have q := Bool.or_eq_false_iff.mp q
      have e : gB k o (gA k o (pairs0 m o)) = gA k o (pairs0 m o) := if_neg fun z => z.elim (of_decide_eq_false q.1) (of_decide_eq_false q.2)
      rw [e]
      exact r_next
  generalize gB k o (gA k o (pairs0 m o)) = p1 at *
  refine r_seq (Γ1 := NS l m o k (gC m k (c1, p1)).1 (gC m k (c1, p1)).2) ?_ ?_
  · refine r_if (et_test (ev_eqU (α := Int) (ev_fz rfl) ev_int)) (fun q => ?_) (fun q => ?_)
    · have e : gC m k (c1, p1) = ((drawW c1 (m - 1)).2, p1.eraseIdx (drawW c1 (m - 1)).1.toNat) := if_pos (of_decide_eq_true q)
      rw [e]
      have d0 := draw_lo (c := c1) (n := m - 1)
      have d1 := draw_lt (c := c1) (n := m - 1) (by omega)
      exact r_le (r_popE (xs := p1) rfl (ee_draw rfl (ev_sub (ev_fz rfl) ev_int) hw (by omega)) rfl (by omega)) (by trivial)
    · have e : gC m k (c1, p1) = (c1, p1) := if_neg (of_decide_eq_false q)
      rw [e]
      exact r_next
  generalize gC m k (c1, p1) = t at *
  refine r_seq (Γ1 := NS l m o k (gD m k t).1 (gD m k t).2) ?_ ?_
  · refine r_if (et_or (et_test (ev_eqU (α := Int) (ev_fz rfl) ev_int)) (fun _ => et_test (ev_eqU (α := Int) (ev_fz rfl) ev_int))) (fun q => ?_) (fun q => ?_)
    · have e : gD m k t = ((pickW 3 t.1 (mesh m)).1, t.2 ++ (pickW 3 t.1 (mesh m)).2) := if_pos ((Bool.or_eq_true _ _ |>.mp q).imp of_decide_eq_true of_decide_eq_true)
      rw [e]
      have ml := net_len (mesh_ok (m := m) ⟨by omega, h6⟩) h6
      have tl := gpC.len
      have pf := (pick_facts (n := 3) gpC.w (mesh m)).2.length_le
      refine r_le (r_setLE (ee_addL (xs := t.2) rfl (ee_lc (xs := mesh m) (S := fun pr => NS l m o k (pickW 3 t.1 pr).1 t.2) (T := fun pr y => (NS l m o k (pickW 3 t.1 pr).1 t.2).set 8 (.fz y)) (T2 := fun pr y => (NS l m o k (drawW (pickW 3 t.1 pr).1 3).2 t.2).set 8 (.fz y)) (pk := fun pr y => decide ((drawW (pickW 3 t.1 pr).1 3).1 = 1)) (f := fun (y : Wire) => y) (acc := fun pr => (pickW 3 t.1 pr).2)
        (EvF.pure (ef_new (ev_sp1 (ea_cons (ev_fz rfl) ea_nil) ⟨by omega, h6⟩))) (by unfold LIM; omega) (fun pr y => eg_name) (fun pr y po ey => te_eq (ee_draw rfl ev_int (pick_facts gpC.w pr).1 (by decide)) ev_int) (fun pr y => ev_fz rfl) (fun pr y => ?_) rfl (fun pr y => ?_)) rfl (by unfold LIM; omega))) (by trivial)
      · rw [pick_snoc]
        show Le _ _
        trivial
      · rw [pick_snoc]
        rfl
    · have q := Bool.or_eq_false_iff.mp q
      have e : gD m k t = t := if_neg fun z => z.elim (of_decide_eq_false q.1) (of_decide_eq_false q.2)
      rw [e]
      exact r_next
  generalize gD m k t = u at *
  have ul := hs.len
  refine r_seq (Γ1 := NS l m o k u.1 (gE k u.2)) ?_ ?_
  · refine r_if (et_test (ev_eqU (α := Int) (ev_fz rfl) ev_int)) (fun q => ?_) (fun q => ?_)
    · have e : gE k u.2 = cutX u.2 (some 1) none := if_pos (of_decide_eq_true q)
      rw [e]
      exact r_le (r_setL (ev_sliceL (ev_ow rfl) (eo_some ev_int) eo_none)) (by trivial)
    · have e : gE k u.2 = u.2 := if_neg (of_decide_eq_false q)
      rw [e]
      exact r_next
  have gl := (gE_mem (k := k) (ps := u.2)).2
  generalize gE k u.2 = ps at *
  refine r_retE (Ev.pure (ev_tupL (Ev.sqL (EvN.ev (ev_ssW (Ev.sqL (EvN.ev (ev_lcA (f := ord2) (ei_seq (Ev.sqL (ev_ow rfl))) (fun x hx => eg_pair) (fun x hx => ev_pair (ev_min2 (EvN.ev (ev_lst (eal_cons (ev_fz rfl) (eal_cons (ev_fz rfl) eal_nil))))) (ev_max2 (EvN.ev (ev_lst (eal_cons (ev_fz rfl) (eal_cons (ev_fz rfl) eal_nil))))))))) (Few.len ?_)))))) (by trivial)
  rw [List.length_map, List.length_map]
  omega
end
end Dy
/-! ## Run19 -/
namespace Dy
open PySem L2 PyProof.Rows Mi
local macro_rules | `(tactic| trivial) => `(tactic| (repeat (first | exact Le.stop | apply Le.same | apply Le.drop)); done)
section
variable {P : Program} {w : World} {K : Fg} {mg : Str → Option Value} {base : Heap}
theorem run__law_thin (l : Addr) (c : Well) (m : Int) (fe : Lst Lot) (hp : Ma c m ∧ [] ∈ fe.l ∧ fe.l.length ≤ 1000) : Run K (rd__law_thin P w K) [.ow (some l) (lstP (wellL c)), .fz m, .bs fe, .any, .any, .any, .any] (.ret (thinW c m fe).1 [.ow (some l) (lstP (wellL (thinW c m fe).2))]) := by
  obtain ⟨⟨hc, h2, h6⟩, hf, fl⟩ := hp
  have hw := draw_ok (n := 12 - 2 * m) hc
  have d0 := draw_lo (c := c) (n := 12 - 2 * m)
  have d1 := draw_le (c := c) (n := 12 - 2 * m)
  have tf := fun ts => thin_facts hw h2 h6 hf ts
  refine r_seq (r_setL (ev_sp1 (ea_cons (ev_fz rfl) ea_nil) ⟨by omega, h6⟩)) ?_
  refine r_seq (r_forE (xs := thinTs c m) (S := fun pre => [.ow (some l) (lstP (wellL (thinS (drawW c (12 - 2 * m)).2 m fe.l pre).1)), .fz m, .bs fe, .ol (thinS (drawW c (12 - 2 * m)).2 m fe.l pre).2, .any, .any, .any]) (efe_rng1 (ee_add (Ev.pure ev_int) (ee_draw rfl (ev_sub ev_int (ev_mulI ev_int (ev_fz rfl) ?_)) hc (by omega))) (by omega)) (by trivial) (fun pre x => eg_name) (fun pre x post e => ?_)) ?_
  · show (2 : Nat).log2 + m.natAbs.log2 < 100000000
    have : (2 : Nat).log2 = 1 := by decide +kernel
    have := log_of (i := m) (by omega) (by omega)
    omega
  · have h := tf pre
    rw [thin_snoc]
    generalize thinS (drawW c (12 - 2 * m)).2 m fe.l pre = s at h ⊢
    have nl := net_len h.net h6
    have hn : 0 < (s.2.length : Int) := by
      have := List.length_pos_iff.mpr h.ne
      omega
    have a0 := fmod_lo (a := x + (drawW s.1 (s.2.length : Int)).1) hn
    have a1 := fmod_lt (a := x + (drawW s.1 (s.2.length : Int)).1) hn
    have hr := (rest_sub (ws := s.2) a0).length_le
    refine r_seq (r_setE (ee_mod (ee_int (ee_add (Ev.pure (ev_fz rfl)) (ee_draw rfl (ev_len (Ev.sqL (ev_ow rfl))) h.w (by omega)))) (ev_len (Ev.sqL (ev_ow rfl))) (by omega))) ?_
    unfold thinStep
    generalize (x + (drawW s.1 (s.2.length : Int)).1).fmod (s.2.length : Int) = a at a0 a1 hr ⊢
    generalize (drawW s.1 (s.2.length : Int)).2 = c1 at *
    refine r_seq (r_setL (xs := restW s.2 a) (ev_addL (EvN.ev (ev_sliceL (ev_ow rfl) eo_none (eo_some (ev_fz rfl)))) (EvN.ev (ev_sliceL (ev_ow rfl) (eo_some (ev_addI (ev_fz rfl) ev_int)) eo_none)) ?_)) ?_
    · have q1 := cutX_len s.2 none (some a)
      have q2 := cutX_len s.2 (some (a + 1)) none
      unfold LIM
      omega
    · refine r_if (et_test (ev_eqU (α := Lst Lot) (EvN.ev (ev_sp3 (ea_cons (ev_fz rfl) (ea_cons (Ev.sqL (ev_ow rfl)) (ea_cons (ev_bs rfl) ea_nil))) ⟨⟨by omega, by omega, by show (restW s.2 a).length ≤ 1000; omega⟩, fl⟩)) (EvN.ev (ev_lst (eal_nil (α := Lot)))))) (fun q => ?_) (fun q => ?_)
      · have z : divided m (restW s.2 a) fe.l = [] := Lst.mk.inj (of_decide_eq_true q)
        rw [if_pos z]
        exact r_le (r_mov rfl) (by trivial)
      · have z : divided m (restW s.2 a) fe.l ≠ [] := fun z => (of_decide_eq_false q) (congrArg Lst.mk z)
        rw [if_neg z]
        exact r_le r_next (by trivial)
  · exact r_retE (Ev.pure (ev_tupL (Ev.sqL (ev_ow rfl)))) (by trivial)
end
end Dy
/-! ## Nt8 -/
namespace Dy
open PySem L2 PyProof.Rows Mi
local macro_rules | `(tactic| trivial) => `(tactic| (repeat (first | exact Le.stop | apply Le.same | apply Le.drop)); done)
section
variable {α β γ : Type} {P : Program} {w : World} {K : Fg} {mg : Str → Option Value} {base : Heap}
theorem run__law_object (T : Hd.Tx K mg) (x1 : Int) (x2 : List Wire) (hp : Net6 x1 x2) : Run K (rd__law_object P w K) [.fz x1, .fz x2, .any, .any] (.ret (NetO.mk x1 x2) []) := by
  have n0 : netBy [] = [] := netBy_id (m := x1) ⟨fun p hp => (List.not_mem_nil hp).elim, .nil⟩
  refine r_seq (r_set (x := NetO.mk x1 []) (Ev.is (ev_make (ws := []) (ev_fz rfl) eal_nil hp.1 (fun p hp => (List.not_mem_nil hp).elim) (Nat.zero_le _)) (by rw [n0]))) ?_
  refine r_for (P := fun _ => True) (S := fun pre => [.fz x1, .fz x2, .fz (NetO.mk x1 pre), .any]) (ef_tup (ev_fz rfl)) (by trivial) True.intro (fun pre x => eg_name) (fun pre x post e _ => .inr ⟨True.intro, ?_⟩) fun _ => r_ret (ev_fz rfl)
  have hn : NetOk x1 (pre ++ [x]) := NetOk.pre (post := post) (by rw [List.append_assoc, List.singleton_append, ← e]; exact hp.2)
  have hx : WireOk x1 x := hn.1 x (by simp)
  have n1 : Net6 x1 (netBy [(x.2, x.1)]) := ⟨hp.1, by rw [netBy_one hx]; exact ⟨fun p hp => by rw [List.mem_singleton.mp hp]; exact hx, by simp⟩⟩
  refine r_le (r_set (x := NetO.mk x1 (pre ++ [x])) (Ev.is (ev_addN (p := NetO.mk x1 (netBy [(x.2, x.1)])) (ev_fz rfl) (ev_make (ws := [(x.2, x.1)]) (ev_fz rfl) (eal_cons (ev_pair (ev_snd (ev_fz rfl)) (ev_fst (ev_fz rfl))) eal_nil) hp.1 (fun p hp => ?_) (by simp)) ⟨⟨hp.1, NetOk.pre hn⟩, n1, rfl⟩) ?_)) (by trivial)
  · rw
          [List.mem_singleton.mp hp]
    obtain ⟨h1, h2, h3⟩ := hx
    show PairOk x1 x.2 x.1
    exact ⟨by omega, h3, h1, by omega, by omega⟩
  · show NetO.mk x1 (netBy (pre ++ netBy [(x.2, x.1)])) = _
    rw [netBy_one hx, netBy_id hn]
/-! ### an own list is walked -/
/-- .. the slot is not looked at behind it -/
def EvW (K : Fg) [Enc α] (wi : TI) (Γ Γ' : Ctx) (xs : List α) : Prop := ∀ B F σ H, Kn K B F H σ Γ → ∀ R : It → Hp → Prop, (∀ J H' F', Kn K B F' H' σ Γ' → Ex F F' → ItOk K F' J xs → R J H') → wi σ H R
theorem Kn.drop {B F H : Hp} {σ : L2.St} {Γ : Ctx} {n : Nat} (h : Kn K B F H σ Γ) : Kn K B F H σ (Γ.set n .any) where
  len := by
    rw [List.length_set]
    exact h.len
  exB := h.exB
  exF := h.exF
  at_ i e q := by
    rcases get_set_cases q with ⟨_, _, z⟩ | ⟨_, q⟩
    · subst z
      trivial
    · exact h.at_ i e q
  dis i j l n1 n2 P1 P2 hij q1 q2 := by
    rcases get_set_cases q1 with ⟨_, _, z⟩ | ⟨_, q1⟩
    · cases z
    · rcases get_set_cases q2 with ⟨_, _, z⟩ | ⟨_, q2⟩
      · cases z
      · exact h.dis i j l n1 n2 P1 P2 hij q1 q2
theorem ew_own [Frz α] {Γ : Ctx} {n : Nat} {m : Option Addr} {xs : List α} (h : Γ[n]? = some (.ow m (lstP xs))) : EvW K (iSeq K (tVar n)) Γ (Γ.set n .any) xs := fun B F σ H k R q => by
  obtain ⟨l, o, h1, hm, hB, hF, h4, h5⟩ := k.at_ n _ h
  obtain ⟨vs, rfl, h6, h7⟩ := h5
  have hf2 : frz F H l = none := frz_none hF h4 rfl
  refine ⟨.ref l, h1, l, rfl, .inl ⟨⟨vs, SqL.of h4⟩, q _ _ (upd (frz F H) l (.lst vs)) ?_ (frz_F.trans (Evl.Ex.new hf2)) (it_list upd_same (paired_mono (fun _ _ r => Enc.mono (Evl.Ex.new hf2) (Kp.keep (frz_keep k.exF) r)) h7))⟩⟩
  refine (Kn.drop (n := n) k).frame (fun a u z => ?_) fun a u hBa hFa ha hmu hex => ?_
  · by_cases e : a = l
    · subst e
      rw [upd_same] at z
      cases z
      exact h4
    · rw [upd_ne e] at z
      exact frz_ex k.exF a u z
  · obtain ⟨i, n3, P3, q1, q2⟩ := hex
    have ne : a ≠ l := fun z => by
      subst z
      rcases get_set_cases q1 with ⟨_, _, z⟩ | ⟨hin, q1⟩
      · cases z
      · exact k.dis n i a m n3 _ P3 hin h q1 h1 q2
    rw [upd_ne ne]
    exact frz_none hFa ha hmu
variable [Enc γ] {t rest : TS} {Γ Γ1 Δ : Ctx} {y : γ}
theorem r_forW [Enc α] {g : TG} {js : List Nat} {wi : TI} {xs : List α} {S : List α → Ctx} {T : List α → α → Ctx} {P : List α → Prop} (h : EvW K wi Γ Γ1 xs) (h0 : Le Γ1 (S [])) (p0 : P [])
    (hg : ∀ pre x, EvG K g js x (S pre) (T pre x))
    (hb : ∀ pre x post, xs = pre ++ x :: post → P pre → Run K t (T pre x) (.ret y Δ) ∨ (P (pre ++ [x]) ∧ Run K t (T pre x) (.next (S (pre ++ [x])) : Out γ)))
    (hd : P xs → Run K rest (S xs) (.ret y Δ)) : Run K (tSeq (tFor wi g t) rest) Γ (.ret y Δ) := fun B F σ H D k p => h B F σ H k _ fun J H1 F' k1 eF ok => by
  refine ⟨fun n m σ' H' => m = xs.length - n ∧ n ≤ xs.length ∧ P (xs.take n) ∧ Kn K B F' H' σ' (S (xs.take n)), ⟨xs.length, by simp, Nat.zero_le _, by simpa using p0, by simpa using k1.le h0⟩, ?_⟩
  rintro n m σ' H' ⟨rfl, hn, hP, k2⟩
  by_cases hlt : n < xs.length
  · have hx := List.getElem?_eq_getElem hlt
    have hsplit : xs = xs.take n ++ xs[n] :: xs.drop (n + 1) := by simp
    have htake : xs.take (n + 1) = xs.take n ++ [xs[n]] := by simp
    refine .inr ⟨(ok.go n _ H' k2.exF hx).1, fun σ2 H2 => n + 1 ≤ xs.length ∧ P (xs.take (n + 1)) ∧ Kn K B F' H2 σ2 (S (xs.take (n + 1))), fun σ2 H2 z => ⟨xs.length - (n + 1), by omega, rfl, z⟩, fun v H2 yl => ?_⟩
    obtain ⟨rfl, r⟩ := (ok.go n _ H' k2.exF hx).2 v H2 yl
    refine hg _ _ B F' σ' H2 v k2 r _ fun σ3 k3 _ _ => ?_
    rcases hb _ _ _ hsplit hP with z | ⟨z1, z2⟩
    · exact z B F' σ3 H2 _ k3 fun v4 σ4 H4 k4 r4 n4 => p v4 σ4 H4 (k4.unframe eF) r4 n4
    · exact z2 B F' σ3 H2 _ k3 fun σ4 H4 k4 => ⟨hlt, by rw [htake]; exact z1, by rw [htake]; exact k4⟩
  · have hn2 : n = xs.length := by omega
    subst hn2
    rw [List.take_length] at hP k2
    exact .inl ⟨ok.stop H' k2.exF, hd hP B F σ' H' D (k2.unframe eF) p⟩
end
end Dy
/-! ## Tm7 -/
namespace Dy
open PySem L2 PyProof.Rows
section
variable {P : Program} {w : World} {K : Fg} {mg : Str → Option Value} {base : Heap} {f : Addr}

def rd__law_past (P : Program) (w : World) (K : Fg) : TS := (tSeq (tAsg (tOp (rInU K false) (tVar 4) (tCall (sp__law_joined K) [] E0 (tCons (tVar 1) (tCons (tVar 2) (tCons (tVar 3) tNil))))) (gName 6)) (tSeq (tIfS (tTest (tOp (rNeU K) (tCB (rRepr K) (tCons (tCall (sp_divides K) [] E0 (tCons (tVar 0) (tCons (tVar 1) (tCons (tVar 2) (tCons (tVar 3) (tCons (tVar 4) tNil)))))) tNil)) (tCB (rRepr K) (tCons (tNotV (tVar 6)) tNil)))) (tRet (tC (.bl false))) tNext) (tSeq (tAsg (tLst (tCons (tCall (sp_way_past K) [] E0 (tCons (tVar 0) (tCons (tVar 1) (tCons (tVar 2) (tCons (tVar 3) (tCons (tVar 4) tNil)))))) (tCons (tMethR (nC K) "past" (sp_Net_past K) E0 (tVar 5) (tCons (tVar 2) (tCons (tVar 3) (tCons (tVar 4) tNil)))) tNil))) (gName 7)) (tSeq (tIfS (tNot (tB (tVar 6))) (tRet (tOp (rEqU K) (tVar 7) (tLst (tCons (tC .non) (tCons (tC .non) tNil))))) tNext) (tSeq (tFor (iSeq K (tVar 7)) (gName 8) (tIfS (tOr (tNot (tB (tCall (sp__law_way_fits K) [] E0 (tCons (tVar 1) (tCons (tVar 2) (tCons (tVar 3) (tCons (tVar 4) (tCons (tVar 8) (tCons (tC (.bl true)) tNil))))))))) (tTest (tOp (rIsNotU) (tCall (sp_is_way K) [] E0 (tCons (tVar 0) (tCons (tVar 1) (tCons (tVar 8) tNil)))) (tC (.bl true))))) (tRet (tC (.bl false))) tNext)) (tRet (tC (.bl true))))))))
theorem sc__law_past : FnScope ["_law_many", "_law_wires", "_law_lot", "_law_one", "_law_other", "_law_net_here", "_law_joint", "_law_told", "_law_way"] ["_law_many", "_law_wires", "_law_lot", "_law_one", "_law_other", "_law_net_here"] (defScope Hd.s__law_past) := ⟨rfl, rfl, rfl, by decide +kernel, rfl, by decide +kernel, by decide +kernel⟩
theorem tm__law_past (T : Hd.Tx K mg) (c_is_way : Cal P w K mg base 6 "is_way" ["many", "net", "thing"] (sp_is_way K)) (c__law_way_fits : Cal P w K mg base 2 "_law_way_fits" ["_law_wires", "_law_lot", "_law_one", "_law_other", "_law_way", "_law_least"] (sp__law_way_fits K)) (c_Net_past : FnR P w K mg base CX0 10 (nM K "past") (sp_Net_past K)) (c_way_past : Cal P w K mg base 6 "way_past" ["many", "net", "lot", "one", "other"] (sp_way_past K)) (c_divides : Cal P w K mg base 6 "divides" ["many", "net", "lot", "one", "other"] (sp_divides K)) (c__law_joined : Cal P w K mg base 1 "_law_joined" ["_law_wires", "_law_lot", "_law_house"] (sp__law_joined K)) : BodyG P w K mg base ["_law_many", "_law_wires", "_law_lot", "_law_one", "_law_other", "_law_net_here", "_law_joint", "_law_told", "_law_way"] "_law_past" Hd.s__law_past f 13 (fun t => t = rd__law_past P w K) :=
  fun cdv A outer s H E hG hr => ⟨_, (pss_cons (ps_set (i := 6) sc__law_past.nd rfl (Or.inl rfl) (pe_cmpR (op_inU (units65 hr)) (pv 4) (pc c__law_joined (hr.mono (by decide)) rfl (pa_cons (pv 1) (pa_cons (pv 2) (pa_cons (pv 3) pa_nil)))) (by rfl))) (pss_cons (ps_if (pt_cmpR (op_neU hr.units) (pe_callB (cr_repr hG hr.units) (by rfl) T.b_repr (by decide +kernel) (pa_cons (pc c_divides (hr.mono (by decide)) rfl (pa_cons (pv 0) (pa_cons (pv 1) (pa_cons (pv 2) (pa_cons (pv 3) (pa_cons (pv 4) pa_nil)))))) pa_nil)) (pe_callB (cr_repr hG hr.units) (by rfl) T.b_repr (by decide +kernel) (pa_cons (pe_not (pv 6)) pa_nil)) (nomark _)) (pss_one (ps_ret pe_bl)) pss_nil) (pss_cons (ps_set (i := 7) sc__law_past.nd rfl (Or.inl rfl) (pe_lst (pa_cons (pc c_way_past (hr.mono (by decide)) rfl (pa_cons (pv 0) (pa_cons (pv 1) (pa_cons (pv 2) (pa_cons (pv 3) (pa_cons (pv 4) pa_nil)))))) (pa_cons (pe_methR (pv 5) (nt_cls_Net T) (nt_meth_Net_past T) c_Net_past (hr.mono (by decide)) pass0 (pa_cons (pv 2) (pa_cons (pv 3) (pa_cons (pv 4) pa_nil)))) pa_nil)))) (pss_cons (ps_if (pt_not (pt_val (pv 6))) (pss_one (ps_ret (pe_cmpR (op_eqU hr.units) (pv 7) (pe_lst (pa_cons pe_non (pa_cons pe_non pa_nil))) (nomark _)))) pss_nil) (pss_cons (ps_for PassesOwn.never rfl (pi_seq (pv 7)) (pg_name (i := 8) sc__law_past.nd rfl (Or.inl rfl)) (pss_one (ps_if (PW.pt (pw_or (pt_not (pt_val (pc c__law_way_fits (hr.mono (by decide)) rfl (pa_cons (pv 1) (pa_cons (pv 2) (pa_cons (pv 3) (pa_cons (pv 4) (pa_cons (pv 8) (pa_cons pe_bl pa_nil))))))))) (pw_or1 (pt_cmpR op_isNotU (pc c_is_way (hr.mono (by decide)) rfl (pa_cons (pv 0) (pa_cons (pv 1) (pa_cons (pv 8) pa_nil)))) pe_bl (nomark _))))) (pss_one (ps_ret pe_bl)) pss_nil))) (pss_one (ps_ret pe_bl))))))), rfl⟩
def rd__law_sides (P : Program) (w : World) (K : Fg) : TS := (tSeq (tAsg (tLc (iSeq K (tCall (sp__law_others K) [] E0 (tCons (tVar 0) (tCons (tVar 2) tNil)))) (gName 5) tYes (tCB (rTupQ K) (tCons (tCB (rSortU K) (tCons (tCall (sp__law_joined K) [] E0 (tCons (tVar 1) (tCons (tVar 2) (tCons (tVar 5) tNil)))) tNil)) tNil)) [5]) (gName 4)) (tSeq (tAsg (tCB (rTupQ K) (tCons (tSS K P w (tVar 4)) tNil)) (gName 4)) (tSeq (tIfS (tTest (tOp (rNeU K) (tCB (rRepr K) (tCons (tLst (tCons (tCall (sp_sides_of K) [] E0 (tCons (tVar 0) (tCons (tVar 1) (tCons (tVar 2) tNil)))) (tCons (tCallI (nC K) (sp_Net___call__ K) (tVar 3) (tCons (tVar 2) tNil)) tNil))) tNil)) (tCB (rRepr K) (tCons (tLst (tCons (tVar 4) (tCons (tVar 4) tNil))) tNil)))) (tRet (tC (.bl false))) tNext) (tSeq (tFor (iRng1 (tCons (tVar 0) tNil)) (gName 5) (tSeq (tAsg (tCB (rTupQ K) (tCons (tLc (iRng1 (tCons (tVar 0) tNil)) (gName 8) (tTest (tOp (rInU K false) (tCB (rTupQ K) (tCons (tCB (rSortU K) (tCons (tLst (tCons (tVar 5) (tCons (tVar 8) tNil))) tNil)) tNil)) (tVar 1))) (tVar 8) [8]) tNil)) (gName 6)) (tIfS (tTest (tOp (rNeU K) (tCB (rRepr K) (tCons (tLst (tCons (tCall (sp_wired_to K) [] E0 (tCons (tVar 0) (tCons (tVar 1) (tCons (tVar 5) tNil)))) (tCons (tIxO (nC K) (sp_Net___getitem__ K) (tVar 3) (tVar 5)) tNil))) tNil)) (tCB (rRepr K) (tCons (tLst (tCons (tVar 6) (tCons (tVar 6) tNil))) tNil)))) (tRet (tC (.bl false))) tNext))) (tSeq (tAsg (tLc (iSeq K (tCall (sp__law_mesh K) [] E0 (tCons (tVar 0) tNil))) (gName 9) (tTest (tOp (rInU K true) (tVar 9) (tVar 1))) (tVar 9) [9]) (gName 7)) (tRet (tOp (rEqU K) (tCB (rRepr K) (tCons (tLst (tCons (tCB (rLstO K (sp_Net___len__ K)) (tCons (tVar 3) tNil)) (tCons (tCB (rLstO K (sp_Net___len__ K)) (tCons (tUn (rInvO (nC K) (sp_Net___invert__ K)) (tVar 3)) tNil)) (tCons (tCB (rLenO (nC K) (sp_Net___len__ K)) (tCons (tVar 3) tNil)) tNil)))) tNil)) (tCB (rRepr K) (tCons (tLst (tCons (tCB (rLstQ K) (tCons (tVar 1) tNil)) (tCons (tVar 7) (tCons (tCB (rLenQ K) (tCons (tVar 1) tNil)) tNil)))) tNil)))))))))
theorem sc__law_sides : FnScope ["_law_many", "_law_wires", "_law_lot", "_law_net_here", "_law_due", "_law_house", "_law_near", "_law_lacking", "_law_other", "_law_wire"] ["_law_many", "_law_wires", "_law_lot", "_law_net_here"] (defScope Hd.s__law_sides) := ⟨rfl, rfl, rfl, by decide +kernel, rfl, by decide +kernel, by decide +kernel⟩
theorem tm__law_sides (T : Hd.Tx K mg) (c_Net___len__ : FnR P w K mg base CX0 4 (nM K "__len__") (sp_Net___len__ K)) (c_Net___invert__ : FnR P w K mg base CX0 16 (nM K "__invert__") (sp_Net___invert__ K)) (c_Net___iter__ : FnR P w K mg base CX0 4 (nM K "__iter__") (sp_Net___iter__ K)) (c__law_mesh : Cal P w K mg base 2 "_law_mesh" ["_law_many"] (sp__law_mesh K)) (c_Net___getitem__ : FnR P w K mg base CX0 10 (nM K "__getitem__") (sp_Net___getitem__ K)) (c_wired_to : Cal P w K mg base 6 "wired_to" ["many", "net", "house"] (sp_wired_to K)) (c_Net___call__ : FnR P w K mg base CX0 10 (nM K "__call__") (sp_Net___call__ K)) (c_sides_of : Cal P w K mg base 6 "sides_of" ["many", "net", "lot"] (sp_sides_of K)) (c__law_others : Cal P w K mg base 1 "_law_others" ["_law_many", "_law_lot"] (sp__law_others K)) (c__law_joined : Cal P w K mg base 1 "_law_joined" ["_law_wires", "_law_lot", "_law_house"] (sp__law_joined K)) : BodyG P w K mg base ["_law_many", "_law_wires", "_law_lot", "_law_net_here", "_law_due", "_law_house", "_law_near", "_law_lacking", "_law_other", "_law_wire"] "_law_sides" Hd.s__law_sides f 19 (fun t => t = rd__law_sides P w K) :=
  fun cdv A outer s H E hG hr => ⟨_, (pss_cons (ps_setLc (i := 4) (own := [("_law_house", 5)]) rfl sc__law_sides.nd rfl rfl (sw_true rfl rfl rfl (by kernel_rfl)) (pi_seq (pc c__law_others (hr.mono (by decide)) rfl (pa_cons (pv 0) (pa_cons (pv 2) pa_nil)))) (blkOk_by (by kernel_rfl)) (fun _ _ _ _ _ => (pg_name (i := 5) sc__law_sides.nd rfl (by first | exact Or.inl rfl | exact Or.inr rfl))) (fun _ _ _ _ _ => pts_nil) (fun _ _ _ _ _ => (pe_callTy call_tupQ (by rfl) T.b_tuple (by decide +kernel) (pa_cons (pe_callB (cr_sortU hr.units) (by rfl) T.b_sorted (by decide +kernel) (pa_cons (pc c__law_joined (hr.mono (by decide)) rfl (pa_cons (pv 1) (pa_cons (pv 2) (pa_cons (pv 5) pa_nil)))) pa_nil)) pa_nil)))) (pss_cons (ps_set (i := 4) sc__law_sides.nd rfl (Or.inl rfl) (pe_callTy call_tupQ (by rfl) T.b_tuple (by decide +kernel) (pa_cons (pe_callB (cr_sortSU rfl hr.units) (by rfl) T.b_sorted (by decide +kernel) (pa_cons (pe_callTy (cr_setU rfl hr.units) (by rfl) T.b_set (by decide +kernel) (pa_cons (pv 4) pa_nil)) pa_nil)) pa_nil))) (pss_cons (ps_if (pt_cmpR (op_neU hr.units) (pe_callB (cr_repr hG hr.units) (by rfl) T.b_repr (by decide +kernel) (pa_cons (pe_lst (pa_cons (pc c_sides_of (hr.mono (by decide)) rfl (pa_cons (pv 0) (pa_cons (pv 1) (pa_cons (pv 2) pa_nil)))) (pa_cons (pe_callI (pv 3) (nt_callO T) c_Net___call__ (hr.mono (by decide)) (pa_cons (pv 2) pa_nil)) pa_nil))) pa_nil)) (pe_callB (cr_repr hG hr.units) (by rfl) T.b_repr (by decide +kernel) (pa_cons (pe_lst (pa_cons (pv 4) (pa_cons (pv 4) pa_nil))) pa_nil)) (nomark _)) (pss_one (ps_ret pe_bl)) pss_nil) (pss_cons (ps_for PassesOwn.never rfl (pi_range1 rfl T.b_range (pa_cons (pv 0) pa_nil)) (pg_name (i := 5) sc__law_sides.nd rfl (Or.inr rfl)) (pss_cons (ps_set (i := 6) sc__law_sides.nd rfl (Or.inl rfl) (pe_callTy call_tupQ (by rfl) T.b_tuple (by decide +kernel) (pa_cons (pe_lc (own := [("_law_other", 8)]) rfl sc__law_sides.nd (pi_range1 rfl T.b_range (pa_cons (pv 0) pa_nil)) (blkOk_by (by kernel_rfl)) (fun _ _ _ _ _ => (pg_name (i := 8) sc__law_sides.nd rfl (by first | exact Or.inl rfl | exact Or.inr rfl))) (fun _ _ _ _ _ => (pts_one (pt_cmpR (op_inU (units65 hr)) (pe_callTy call_tupQ (by rfl) T.b_tuple (by decide +kernel) (pa_cons (pe_callB (cr_sortU hr.units) (by rfl) T.b_sorted (by decide +kernel) (pa_cons (pe_lst (pa_cons (pv 5) (pa_cons (pv 8) pa_nil))) pa_nil)) pa_nil)) (pv 1) (by rfl)))) (fun _ _ _ _ _ => (pv 8))) pa_nil))) (pss_one (ps_if (pt_cmpR (op_neU hr.units) (pe_callB (cr_repr hG hr.units) (by rfl) T.b_repr (by decide +kernel) (pa_cons (pe_lst (pa_cons (pc c_wired_to (hr.mono (by decide)) rfl (pa_cons (pv 0) (pa_cons (pv 1) (pa_cons (pv 5) pa_nil)))) (pa_cons (pe_ixO (nt_meth_Net_getitem T).at_ (nt_parts T).2.1 (nt_meth_Net_getitem T).fn c_Net___getitem__ (hr.mono (by decide)) (pv 3) (pv 5)) pa_nil))) pa_nil)) (pe_callB (cr_repr hG hr.units) (by rfl) T.b_repr (by decide +kernel) (pa_cons (pe_lst (pa_cons (pv 6) (pa_cons (pv 6) pa_nil))) pa_nil)) (nomark _)) (pss_one (ps_ret pe_bl)) pss_nil)))) (pss_cons (ps_setLc (i := 7) (own := [("_law_wire", 9)]) rfl sc__law_sides.nd rfl rfl (sw_true rfl rfl rfl (by kernel_rfl)) (pi_seq (pc c__law_mesh (hr.mono (by decide)) rfl (pa_cons (pv 0) pa_nil))) (blkOk_by (by kernel_rfl)) (fun _ _ _ _ _ => (pg_name (i := 9) sc__law_sides.nd rfl (by first | exact Or.inl rfl | exact Or.inr rfl))) (fun _ _ _ _ _ => (pts_one (pt_cmpR (op_notInU (units65 hr)) (pv 9) (pv 1) (by rfl)))) (fun _ _ _ _ _ => (pv 9))) (pss_one (ps_ret (pe_cmpR (op_eqU hr.units) (pe_callB (cr_repr hG hr.units) (by rfl) T.b_repr (by decide +kernel) (pa_cons (pe_lst (pa_cons (pe_callTy (call_listO rfl (nt_meth_Net_iter T) (nt_meth_Net_len T) c_Net___iter__ c_Net___len__ (hr.mono (by decide))) (by rfl) T.b_list (by decide +kernel) (pa_cons (pv 3) pa_nil)) (pa_cons (pe_callTy (call_listO rfl (nt_meth_Net_iter T) (nt_meth_Net_len T) c_Net___iter__ c_Net___len__ (hr.mono (by decide))) (by rfl) T.b_list (by decide +kernel) (pa_cons (pe_un (un_invO (nt_meth_Net_invert T).at_ (nt_meth_Net_invert T).fn c_Net___invert__ (hr.mono (by decide))) (pv 3)) pa_nil)) (pa_cons (pe_callB (call_lenO (nt_meth_Net_len T).at_ (nt_meth_Net_len T).fn c_Net___len__ (hr.mono (by decide))) (by rfl) T.b_len PySem.boot_len (pa_cons (pv 3) pa_nil)) pa_nil)))) pa_nil)) (pe_callB (cr_repr hG hr.units) (by rfl) T.b_repr (by decide +kernel) (pa_cons (pe_lst (pa_cons (pe_callTy call_lstQ (by rfl) T.b_list (by decide +kernel) (pa_cons (pv 1) pa_nil)) (pa_cons (pv 7) (pa_cons (pe_callB call_lenQ (by rfl) T.b_len PySem.boot_len (pa_cons (pv 1) pa_nil)) pa_nil)))) pa_nil)) (nomark _))))))))), rfl⟩
end
end Dy
/-! ## Run14 -/
namespace Mi
open Dy
/-- a shortest way is one that the law takes -/
theorem way_fits {m : Int} {net : List Wire} {lot w : Lot} {a b : Int} (h : PastIn m net lot a b) (e : bareWay net lot a b = some w) : WayFits net lot a b w ∧ WayOk m net w := by
  obtain ⟨h1, h2, h3, h4, h5⟩ := h
  have hw := h1.2.1
  have nb := net_b h1
  obtain ⟨wy, hl⟩ := (bareWay_spec (other := b) hw h4).1 w e
  have rg : ∀ x ∈ w, 0 ≤ x ∧ x < m := fun x hx => by
    obtain ⟨i, hi⟩ := List.getElem?_of_mem hx
    exact (way_conn wy i x hi).range hw ⟨h3.1, h3.2.1⟩
  have wne := wy.ne
  have pos := List.length_pos_iff.mpr wne
  have len : w.length ≤ 6 := by
    have z := List.Nodup.length_le_of_subset wy.nd (l₂ := rng 0 6) fun x hx => mem_rng.mpr (by have := rg x hx; have := h1.1.2; omega)
    rw [rng_len] at z
    exact z
  have wire : ∀ (i : Nat) (x y : Int), w[i]? = some x → w[i + 1]? = some y → (min x y, max x y) ∈ net := fun i x y hx hy => by
    rcases wy.wires i x y hx hy with z | z
    · have := (hw _ z).2.1
      simp only at this
      rw [show min x y = x by omega, show max x y = y by omega]
      exact z
    · have := (hw _ z).2.1
      simp only at this
      rw [show min x y = y by omega, show max x y = x by omega]
      exact z
  refine ⟨⟨nb.2, ⟨pos, by omega⟩, (long_eq hw h4 e).symm, fun x hx => ⟨by have := rg x hx; have := h1.1.2; omega, wy.out x hx⟩, fun k k1 k2 => ?_, ⟨?_, hl⟩, ?_⟩, wy.nd, rg, fun i x y hx hy => ?_⟩
  · have e1 := at_get (ms := w) (i := k - 1) (by omega)
    have e2 := at_get (ms := w) (i := k) (by omega)
    refine wire (k - 1).toNat _ _ e1 ?_
    rw [show (k - 1).toNat + 1 = k.toNat by omega]
    exact e2
  · have e1 := at_get (ms := w) (i := 0) (by omega)
    rw [show ((0 : Int)).toNat = 0 from rfl, wy.hd] at e1
    exact (Option.some.inj e1).symm
  · unfold ssortI
    rw [sortI_len]
    have p := (List.perm_ext_iff_of_nodup (ddI_nodup w) wy.nd).mpr fun x => mem_ddI
    exact p.length_eq
  · have z := wire i x y hx hy
    unfold wireBetween
    by_cases c : x < y
    · rw [if_pos c]
      rw [show min x y = x by omega, show max x y = y by omega] at z
      exact z
    · rw [if_neg c]
      have ne : x ≠ y := fun q => by
        have l1 := (hw _ z).2.1
        simp only at l1
        omega
      rw [show min x y = y by omega, show max x y = x by omega] at z
      exact z
end Mi
namespace Dy
open PySem L2 PyProof.Rows Mi
local macro_rules | `(tactic| trivial) => `(tactic| (repeat (first | exact Le.stop | apply Le.same | apply Le.drop)); done)
section
variable {P : Program} {w : World} {K : Fg} {mg : Str → Option Value} {base : Heap}
theorem Ev.unsome {α : Type} [Frz α] {te : TE} {Γ : Ctx} {xs : List α} (h : Ev K te Γ (some xs)) : Ev K te Γ xs := fun B F σ H k Q q => h B F σ H k Q fun v H' e r => q v H' e r
theorem run__law_past (T : Hd.Tx K mg) (x1 : Int) (x2 : List Wire) (x3 : Lot) (x4 x5 : Int) (x6 : NetO) (hp : x6 = NetO.mk x1 x2 ∧ PastIn x1 x2 x3 x4 x5) : Run K (rd__law_past P w K) [.fz x1, .fz x2, .fz x3, .fz x4, .fz x5, .fz x6, .any, .any, .any] (.ret true []) := by
  obtain ⟨e6, hin⟩ := hp
  subst e6
  obtain ⟨h1, h2, h3, h4, h5⟩ := id hin
  have nb := net_b h1
  have hw := h1.2.1
  have oa : x4 ∈ others x1 x3 := mem_others.mpr ⟨⟨h3.1, h3.2.1⟩, h4⟩
  have ob : x5 ∈ others x1 x3 := mem_others.mpr ⟨⟨h3.2.2.1, h3.2.2.2.1⟩, h5⟩
  have dv := divides_eq hw oa ob
  have jn := mem_joined (net := x2) (lot := x3) (h := x4) h4 (x := x5)
  have bs := bareWay_some (other := x5) hw h4
  refine r_seq (r_set (x := decide (x5 ∈ joined x2 x3 x4)) (Ev.is (ev_in (ev_fz rfl) (Ev.sqL (EvN.ev (ev_sp3 (ea_cons (Ev.sqT (ev_fz rfl)) (ea_cons (ev_fz rfl) (ea_cons (ev_fz rfl) ea_nil))) nb.2)))) (by congr))) ?_
  refine r_ifS (et_neRepr (EvN.ev (ev_sp5 (ea_cons (ev_fz rfl) (ea_cons (ev_fz rfl) (ea_cons (ev_fz rfl) (ea_cons (ev_fz rfl) (ea_cons (ev_fz rfl) ea_nil))))) hin)) (ev_notV (ev_fz rfl)) dv (shows_bool _)) (fun z => nomatch z) (fun _ => r_skip ?_)
  refine r_seq (r_setL (xs := [bareWay x2 x3 x4 x5, bareWay x2 x3 x4 x5]) (ev_lst (eal_cons (EvN.ev (ev_sp5 (ea_cons (ev_fz rfl) (ea_cons (ev_fz rfl) (ea_cons (ev_fz rfl) (ea_cons (ev_fz rfl) (ea_cons (ev_fz rfl) ea_nil))))) hin)) (eal_cons (ev_past (n := NetO.mk x1 x2) (ev_fz rfl) (ea_cons (ev_fz rfl) (ea_cons (ev_fz rfl) (ea_cons (ev_fz rfl) ea_nil))) hin) eal_nil)))) ?_
  refine r_ifS (et_not (et_B (ev_fz rfl))) (fun hj => r_seqR ?_) (fun hj => r_skip ?_)
  · have hn : bareWay x2 x3 x4 x5 = none := by
      cases hb : bareWay x2 x3 x4 x5 with
      | none => rfl
      | some y =>
        have := jn.mpr (bs.mp (by rw [hb]; rfl))
        simp [this] at hj
    rw [hn]
    exact r_retIs (ev_eqU (α := Lst (Option (List Int))) (ev_ow rfl) (EvN.ev (ev_lst (eal_cons ev_nonO (eal_cons ev_nonO eal_nil))))) (by simp)
  · have hm : x5 ∈ joined x2 x3 x4 := by simpa using hj
    obtain ⟨wy, hy⟩ := Option.isSome_iff_exists.mp (bs.mpr (jn.mp hm))
    obtain ⟨f1, f2⟩ := way_fits hin hy
    rw [hy]
    refine r_forW (P := fun _ => True) (S := fun _ => [.fz x1, .fz x2, .fz x3, .fz x4, .fz x5, .any, .any, .any, .any]) (ew_own rfl) (by trivial) True.intro (fun pre x => eg_name) (fun pre x post e _ => .inr ⟨True.intro, ?_⟩) fun _ => r_retIs ev_bl rfl
    have hx : x = some wy := by
      have z := mem_split e
      simpa using z
    subst hx
    refine r_if (b := false) (EvT.is (et_or (et_not (et_B (EvN.ev (ev_sp6 (ea_cons (ev_fz rfl) (ea_cons (ev_fz rfl) (ea_cons (ev_fz rfl) (ea_cons (ev_fz rfl) (ea_cons (Ev.unsome (ev_fz rfl)) (ea_cons ev_bl ea_nil)))))) f1)))) (fun _ => (et_test (ev_isNotB (EvN.ev (ev_sp3 (ea_cons (ev_fz rfl) (ea_cons (ev_fz rfl) (ea_cons (Ev.unsome (ev_fz rfl)) ea_nil))) ⟨h1, f2⟩)) ev_bl)))) (by simp)) (fun z => nomatch z) (fun _ => r_le r_next (by trivial))
end
end Dy
/-! ## Run15 -/
namespace Dy
open PySem L2 PyProof.Rows Mi
local macro_rules | `(tactic| trivial) => `(tactic| (repeat (first | exact Le.stop | apply Le.same | apply Le.drop)); done)
section
variable {α β : Type} {P : Program} {w : World} {K : Fg} {mg : Str → Option Value} {base : Heap} {Γ : Ctx} {ta tb tc : TE}
theorem sortI_two (i j : Int) : sortI [i, j] = [min i j, max i j] := by
  refine (sortI_unique ?_ (by simp; omega)).symm
  by_cases h : i ≤ j
  · rw [show min i j = i by omega, show max i j = j by omega]
  · rw [show min i j = j by omega, show max i j = i by omega]
    exact .swap _ _ _
theorem ev_sortPair {i j : Int} (h1 : Ev K ta Γ i) (h2 : Ev K tb Γ j) : Ev K (tCB (rTupQ K) (tCons (tCB (rSortU K) (tCons (tLst (tCons ta (tCons tb tNil))) tNil)) tNil)) Γ (min i j, max i j) := fun B F σ H k Q q =>
  (ev_tupL (Ev.sqL (EvN.ev (ev_sortUI (EvN.ev (ev_lst (eal_cons h1 (eal_cons h2 eal_nil)))))))) B F σ H k Q fun v H' e r => q v H' e (list_pair (by rw [← sortI_two]; exact r))
theorem ev_list3 [Frz α] [Frz β] {x : Lst α} {y : Lst β} {i : Int} (h1 : Ev K ta Γ x) (h2 : Ev K tb Γ y) (h3 : Ev K tc Γ i) : Ev K (tLst (tCons ta (tCons tb (tCons tc tNil)))) Γ (PyData.list [Dat.d x, Dat.d y, .int i]) := fun B F σ H k Q q =>
  h1 B F σ H k _ fun v1 H1 e1 r1 => h2 B F σ H1 (k.mono e1) _ fun v2 H2 e2 r2 => h3 B F σ H2 ((k.mono e1).mono e2) _ fun v3 H3 e3 r3 => ⟨Nat.le_of_ble_eq_true rfl, fun a ha => by
    have en : Ex H3 (upd H3 a (.lst [v1, v2, v3])) := Evl.Ex.new ha
    exact q _ _ (((e1.trans e2).trans e3).trans en) (Dp.lst (SqL.of upd_same) (.cons (dp_mono ((e2.trans e3).trans en) _ _ (Dat.dp r1)) (.cons (dp_mono (e3.trans en) _ _ (Dat.dp r2)) (.cons (dp_mono en _ _ (Dat.dp (α := Int) r3)) .nil))))⟩
theorem sh_lots {ls : List Lot} (h : Small ls) : Sh (Dat.d ls) 12100 := sh_tup (n := 120) (m := 100) (fun x hx => by
  obtain ⟨i, hi, rfl⟩ := List.mem_map.mp hx
  exact sh_lot (h.2 i hi)) (by rw [List.length_map]; exact h.1)
theorem shows_two {ls : List Lot} (h : Small ls) : Shows (Dat.d (Lst.mk [ls, ls])) := ⟨(sh_list (n := 12100) (m := 2) (fun x hx => by
  have e : x = Dat.d ls := by simpa using hx
  rw [e]
  exact sh_lots h) (by simp)).le (by decide), (fun _ z => by cases z), (fun _ z => by cases z), (fun z => by cases z)⟩
theorem shows_lot2 {l : Lot} (h : l.length ≤ 10 ∧ ∀ x ∈ l, -1000 ≤ x ∧ x ≤ 1000) : Shows (Dat.d (Lst.mk [l, l])) := ⟨(sh_list (n := 120) (m := 2) (fun x hx => by
  have e : x = Dat.d l := by simpa using hx
  rw [e]
  exact sh_lot h) (by simp)).le (by decide), (fun _ z => by cases z), (fun _ z => by cases z), (fun z => by cases z)⟩
theorem sh_wires {m : Int} {net : List Wire} (h : NetOk m net) (hm : m ≤ 6) : Sh (Dat.d (Lst.mk net)) 400 := (sh_list (n := 24) (m := 15) (fun x hx => by
  obtain ⟨p, hp, rfl⟩ := List.mem_map.mp hx
  obtain ⟨h1, h2, h3⟩ := h.1 p hp
  refine (sh_tup (n := 11) (m := 2) (fun y hy => ?_) (by simp) : Sh (.tuple [Dat.d p.1, Dat.d p.2]) 24)
  have : y = Dat.d p.1 ∨ y = Dat.d p.2 := by simpa using hy
  rcases this with e | e
  · rw [e]
    exact (sh_int (by omega) (by omega) : Sh (.int p.1) 11)
  · rw [e]
    exact (sh_int (by omega) (by omega) : Sh (.int p.2) 11)) (by rw [List.length_map]; exact net_len h hm)).le (by decide)
theorem run__law_sides (T : Hd.Tx K mg) (x1 : Int) (x2 : List Wire) (x3 : Lot) (x4 : NetO) (hp : x4 = NetO.mk x1 x2 ∧ Net6 x1 x2 ∧ LotOk x1 x3) : Run K (rd__law_sides P w K) [.fz x1, .fz x2, .fz x3, .fz x4, .any, .any, .any, .any, .any, .any] (.ret true []) := by
  obtain ⟨e4, h1, h2⟩ := hp
  subst e4
  have nb := net_b h1
  have nc := net_c h1
  have hw := h1.2.1
  have h0 : 0 ≤ x1 := nc.1
  have h6 := h1.1.2
  have ol := others_len6 (m := x1) (lot := x3) h6
  have sl := sides_len (m := x1) (net := x2) (lot := x3) hw
  have sm : Small (sides x1 x2 x3) := by
    refine small_lots h0 h6 sides_nodup fun l hl => ?_
    obtain ⟨h, hh, rfl⟩ := (mem_sides' hw).mp hl
    exact ⟨(others_lt x1 x3).filter _, fun x hx => (mem_others.mp (List.mem_filter.mp hx).1).1⟩
  refine r_seq (r_setL (xs := (others x1 x3).map fun h => sortI (joined x2 x3 h)) (ev_lcA (f := fun h => sortI (joined x2 x3 h)) (ei_seq (Ev.sqT (EvN.ev (ev_sp2 (ea_cons (ev_fz rfl) (ea_cons (ev_fz rfl) ea_nil)) ⟨by omega, by omega⟩)))) (fun x hx => eg_name) (fun x hx => (ev_tupL (Ev.sqL (EvN.ev (ev_sortUI (EvN.ev (ev_sp3 (ea_cons (Ev.sqT (ev_fz rfl)) (ea_cons (ev_fz rfl) (ea_cons (ev_fz rfl) ea_nil))) nb.2))))))))) ?_
  refine r_seq (r_set (ev_tupL (Ev.sqL (EvN.ev (ev_ss (Ev.sqL (ev_ow rfl)) (Few.len (by rw [List.length_map]; omega))))))) ?_
  rw [← sides_law hw]
  refine r_ifS (et_neRepr (α := Lst (List Lot)) (EvN.ev (ev_lst (eal_cons (EvN.ev (ev_sp3 (ea_cons (ev_fz rfl) (ea_cons (ev_fz rfl) (ea_cons (ev_fz rfl) ea_nil))) ⟨h1, h2⟩)) (eal_cons (ev_callN (n := NetO.mk x1 x2) (ev_fz rfl) (ea_cons (ev_fz rfl) ea_nil) ⟨h1, h2⟩) eal_nil)))) (EvN.ev (ev_lst (eal_cons (ev_fz rfl) (eal_cons (ev_fz rfl) eal_nil)))) rfl (shows_two sm)) (fun z => nomatch z) (fun _ => r_skip ?_)
  refine r_for (P := fun _ => True) (S := fun _ => [.fz x1, .fz x2, .fz x3, .fz (NetO.mk x1 x2), .any, .any, .any, .any, .any, .any]) (ef_rng1 (ev_fz rfl) ⟨by omega, by omega⟩) (by trivial) True.intro (fun pre x => eg_name) (fun pre x post e _ => .inr ⟨True.intro, ?_⟩) fun _ => ?_
  · have hx := mem_rng.mp (mem_split e)
    have hx2 : 0 ≤ x ∧ x < x1 := by omega
    have nl : (near x1 x2 x).length ≤ 10 ∧ ∀ y ∈ near x1 x2 x, -1000 ≤ y ∧ y ≤ 1000 := by
      refine lot_small (m := x1) ⟨(rng_lt 0 _).filter _, fun y hy => ?_⟩ h6
      have := mem_rng.mp (List.mem_filter.mp hy).1
      omega
    refine r_seq (r_set (x := near x1 x2 x) (Ev.is (ev_tupL (Ev.sqL (EvN.ev (ev_lc (f := fun (o : Int) => o) (ei_rng1 (ev_fz rfl) ⟨by omega, by omega⟩) (fun o ho => eg_name) (fun o ho => (et_test (ev_in (ev_sortPair (ev_fz rfl) (ev_fz rfl)) (Ev.sqT (ev_fz rfl))))) (fun o ho hp => (ev_fz rfl)))))) (by rw [List.map_id']; unfold near; refine List.filter_congr fun o _ => ?_; congr))) ?_
    refine r_if (et_neRepr (α := Lst Lot) (EvN.ev (ev_lst (eal_cons (EvN.ev (ev_sp3 (ea_cons (ev_fz rfl) (ea_cons (ev_fz rfl) (ea_cons (ev_fz rfl) ea_nil))) ⟨h1, hx2⟩)) (eal_cons (ev_ixN (n := NetO.mk x1 x2) (ev_fz rfl) (ev_fz rfl) ⟨h1, hx2⟩) eal_nil)))) (EvN.ev (ev_lst (eal_cons (ev_fz rfl) (eal_cons (ev_fz rfl) eal_nil)))) ?_ ?_) (fun z => nomatch z) (fun _ => r_le r_next (by trivial))
    · rw [wired_near h1.2 h0]
    · rw [wired_near h1.2 h0]
      exact shows_lot2 nl
  · have mo : NetOk x1 ((mesh x1).filter fun w => !decide (w ∈ x2)) := (mesh_ok h1.1).filter _
    have s1 := sh_wires h1.2 h6
    have s2 := sh_wires mo h6
    have nl := net_len h1.2 h6
    refine r_seq (r_setL (EvN.is (ev_lc (f := fun (l : Wire) => l) (ei_seq (Ev.sqL (EvN.ev (ev_sp1 (ea_cons (ev_fz rfl) ea_nil) h1.1)))) (fun x hx => eg_name) (fun x hx => (et_test (ev_notIn (ev_fz rfl) (Ev.sqT (ev_fz rfl))))) (fun x hx hp => (ev_fz rfl))) (show _ = Lst.mk ((mesh x1).filter fun w => !decide (w ∈ x2)) from by rw [List.map_id']; congr 2; funext x; congr))) ?_
    have sh : Sh (PyData.list [Dat.d (Lst.mk x2), Dat.d (Lst.mk ((mesh x1).filter fun w => !decide (w ∈ x2))), .int (x2.length : Nat)]) 1203 := sh_list (n := 400) (m := 3) (fun y hy => by
      have z : y = Dat.d (Lst.mk x2) ∨ y = Dat.d (Lst.mk ((mesh x1).filter fun w => !decide (w ∈ x2))) ∨ y = .int (x2.length : Nat) := by simpa using hy
      rcases z with z | z | z
      · rw [z]
        exact s1
      · rw [z]
        exact s2
      · rw [z]
        exact (sh_int (by omega) (by omega)).le (by decide)) (by simp)
    have cl : (PyData.list [Dat.d (Lst.mk x2), Dat.d (Lst.mk ((mesh x1).filter fun w => !decide (w ∈ x2))), .int (x2.length : Nat)]).canLay0 = true := by
      simp [PyData.canLay0, PyData.canLayAll0, Dat.lay]
    have dp : (PyData.list [Dat.d (Lst.mk x2), Dat.d (Lst.mk ((mesh x1).filter fun w => !decide (w ∈ x2))), .int (x2.length : Nat)]).depth ≤ 60 := by
      have d1 := Dat.depth (Lst.mk x2)
      have d2 := Dat.depth (Lst.mk ((mesh x1).filter fun w => !decide (w ∈ x2)))
      have d3 : Dat.dep (Lst Wire) = 2 := rfl
      simp only [PyData.depth,
              PyData.depthAll]
      omega
    exact r_retIs (ev_eqS (ev_reprP (ev_list3 (x := Lst.mk x2) (y := Lst.mk ((mesh x1).filter fun w => !decide (w ∈ x2))) (i := (x2.length : Nat)) (EvN.ev (ev_listN (n := NetO.mk x1 x2) (ev_fz rfl))) (Ev.is (EvN.ev (ev_listN (ev_invN (n := NetO.mk x1 x2) (ev_fz rfl) h1))) (congrArg Lst.mk (netBy_id mo))) (ev_lenN (n := NetO.mk x1 x2) (ev_fz rfl) (by show x2.length ≤ LIM; unfold LIM; omega))) sh (by decide) cl dp (fun _ z => by cases z) (fun _ z => by cases z) (fun z => by cases z)) (ev_reprP (ev_list3 (x := Lst.mk x2) (y := Lst.mk ((mesh x1).filter fun w => !decide (w ∈ x2))) (i := (x2.length : Nat)) (EvN.ev (ev_lstL (Ev.sqT (ev_fz rfl)))) (ev_ow rfl) (ev_len (Ev.sqT (ev_fz rfl)))) sh (by decide) cl dp (fun _ z => by cases z) (fun _ z => by cases z) (fun z => by cases z))) (by simp)
end
end Dy
/-! ## Tm10 -/
namespace Dy
open PySem L2 PyProof.Rows
section
variable {P : Program} {w : World} {K : Fg} {mg : Str → Option Value} {base : Heap} {f : Addr}

def rd_law (P : Program) (w : World) (K : Fg) : TS := (tSeq (tAsg (tCall (sp__law_well K) [] E0 (tCons (tVar 0) tNil)) (gName 1)) (tSeq (tAsg (tOp (rIxU K) (tTup (tCons (tC (.int 4)) (tCons (tC (.int 3)) (tCons (tC (.int 5)) (tCons (tC (.int 2)) (tCons (tC (.int 6)) (tCons (tC (.int 4)) (tCons (tC (.int 5)) tNil)))))))) (tCall (sp__law_draw K) [] E0 (tCons (tVar 1) (tCons (tC (.int 7)) tNil)))) (gName 2)) (tSeq (tAsg (tCall (sp__law_fears K) [] E0 (tCons (tVar 1) (tCons (tVar 2) tNil))) (gName 3)) (tSeq (tAsg (tCall (sp__law_feared K) [] E0 (tCons (tVar 2) (tCons (tVar 3) tNil))) (gName 4)) (tSeq (tAsg (tCall (sp__law_net K) [] E0 (tCons (tVar 1) (tCons (tVar 2) tNil))) (gName 5)) (tSeq (tIfS (tTest (tOp (rEqU K) (tCall (sp__law_draw K) [] E0 (tCons (tVar 1) (tCons (tC (.int 3)) tNil))) (tC (.int 2)))) (tAsg (tCall (sp__law_thin K) [] E0 (tCons (tVar 1) (tCons (tVar 2) (tCons (tVar 4) tNil)))) (gName 5)) tNext) (tSeq (tAsg (tCall (sp__law_object K) [] E0 (tCons (tVar 2) (tCons (tVar 5) tNil))) (gName 6)) (tSeq (tAsg (tCall (sp__law_divided K) [] E0 (tCons (tVar 2) (tCons (tVar 5) (tCons (tVar 4) tNil)))) (gName 7)) (tSeq (tIfS (tTest (tOp (rNeU K) (tCB (rRepr K) (tCons (tCall (sp_dividing_lots K) [] E0 (tCons (tVar 2) (tCons (tVar 5) (tCons (tVar 3) tNil)))) tNil)) (tCB (rRepr K) (tCons (tCB (rTupQ K) (tCons (tVar 7) tNil)) tNil)))) (tRet (tC (.bl false))) tNext) (tSeq (tIfS (tTest (tOp (rNeU K) (tCB (rRepr K) (tCons (tCall (sp_is_sturdy K) [] E0 (tCons (tVar 2) (tCons (tVar 5) (tCons (tVar 3) tNil)))) tNil)) (tCB (rRepr K) (tCons (tOp (rEqU K) (tVar 7) (tLst tNil)) tNil)))) (tRet (tC (.bl false))) tNext) (tSeq (tAsg (tCall (sp__law_mesh K) [] E0 (tCons (tVar 2) tNil)) (gName 8)) (tSeq (tAsg (tCall (sp__law_draw K) [] E0 (tCons (tVar 1) (tCons (tCB (rLenQ K) (tCons (tVar 8) tNil)) tNil))) (gName 9)) (tSeq (tFor (iSeq K (tSl (rSlU K) (tOp (rAddU K) (tSl (rSlU K) (tVar 8) (tPart (tVar 9)) tNoPart) (tSl (rSlU K) (tVar 8) tNoPart (tPart (tVar 9)))) tNoPart (tPart (tC (.int 6))))) (gTup K 2 (gCons (gName 10) (gCons (gName 11) gNil))) (tIfS (tNot (tB (tCall (sp__law_pair K) [] E0 (tCons (tVar 2) (tCons (tVar 5) (tCons (tVar 3) (tCons (tVar 4) (tCons (tVar 10) (tCons (tVar 11) tNil))))))))) (tRet (tC (.bl false))) tNext)) (tSeq (tAsg (tTup (tCons (tOp (rIxU K) (tOp (rIxU K) (tVar 8) (tVar 9)) (tC (.int 1))) (tCons (tOp (rIxU K) (tOp (rIxU K) (tVar 8) (tVar 9)) (tC (.int 0))) tNil))) (gTup K 2 (gCons (gName 10) (gCons (gName 11) gNil)))) (tSeq (tIfS (tNot (tB (tCall (sp__law_drawn_pair K) [] E0 (tCons (tVar 2) (tCons (tVar 5) (tCons (tVar 3) (tCons (tVar 4) (tCons (tVar 10) (tCons (tVar 11) tNil))))))))) (tRet (tC (.bl false))) tNext) (tSeq (tAsg (tOp (rIxU K) (tCall (sp__law_lots K) [] E0 (tCons (tVar 2) tNil)) (tCall (sp__law_draw K) [] E0 (tCons (tVar 1) (tCons (tOp (rI CPow fun i j => V.int (i * 2 ^ j.toNat)) (tC (.int 1)) (tVar 2)) tNil)))) (gName 12)) (tSeq (tIfS (tOr (tNot (tB (tCall (sp__law_sides K) [] E0 (tCons (tVar 2) (tCons (tVar 5) (tCons (tVar 12) (tCons (tVar 6) tNil))))))) (tNot (tB (tCall (sp__law_grounds K) [] E0 (tCons (tVar 2) (tCons (tVar 5) (tCons (tVar 3) (tCons (tVar 7) (tCons (tVar 12) tNil))))))))) (tRet (tC (.bl false))) tNext) (tSeq (tAsg (tCB (rTupQ K) (tCons (tLc (iSeq K (tVar 12)) (gName 14) (tTest (tOp (rInU K true) (tVar 14) (tTup (tCons (tVar 10) (tCons (tVar 11) tNil))))) (tVar 14) [14]) tNil)) (gName 13)) (tSeq (tIfS (tNot (tB (tCall (sp__law_past K) [] E0 (tCons (tVar 2) (tCons (tVar 5) (tCons (tVar 13) (tCons (tVar 10) (tCons (tVar 11) (tCons (tVar 6) tNil))))))))) (tRet (tC (.bl false))) tNext) (tRet (tAndV (tCall (sp__law_needed K) [] E0 (tCons (tVar 2) (tCons (tVar 5) (tCons (tVar 3) (tCons (tVar 4) tNil))))) (tAndV (tNotV (tOp (rEqO K (nC K) (sp_Net___eq__ K)) (tVar 6) (tVar 5))) (tOp (rEqO K (nC K) (sp_Net___eq__ K)) (tVar 6) (tCall (sp__law_object K) [] E0 (tCons (tVar 2) (tCons (tVar 5) tNil))))))))))))))))))))))))))
theorem sc_law : FnScope ["_law_script", "_law_well_here", "_law_many", "_law_fears_here", "_law_feared_here", "_law_wires", "_law_net_here", "_law_lots_here", "_law_pairs", "_law_at", "_law_one", "_law_other", "_law_lot", "_law_rest", "_law_house"] ["_law_script"] (defScope Hd.s_law) := ⟨rfl, rfl, rfl, by decide +kernel, rfl, by decide +kernel, by decide +kernel⟩
theorem tm_law (T : Hd.Tx K mg) (c__law_object : Cal P w K mg base 16 "_law_object" ["_law_many", "_law_wires"] (sp__law_object K)) (c_Net___eq__ : FnR P w K mg base CX0 4 (nM K "__eq__") (sp_Net___eq__ K)) (c__law_needed : CalG P w K mg base 11 "_law_needed" ["_law_many", "_law_wires", "_law_fears_here", "_law_feared_here"] (sp__law_needed K)) (c__law_past : CalG P w K mg base 14 "_law_past" ["_law_many", "_law_wires", "_law_lot", "_law_one", "_law_other", "_law_net_here"] (sp__law_past K)) (c__law_grounds : CalG P w K mg base 10 "_law_grounds" ["_law_many", "_law_wires", "_law_fears_here", "_law_lots_here", "_law_lot"] (sp__law_grounds K)) (c__law_sides : CalG P w K mg base 20 "_law_sides" ["_law_many", "_law_wires", "_law_lot", "_law_net_here"] (sp__law_sides K)) (c__law_lots : Cal P w K mg base 1 "_law_lots" ["_law_many"] (sp__law_lots K)) (c__law_draw : Cal P w K mg base 1 "_law_draw" ["_law_well_here", "_law_many"] (sp__law_draw K)) (c__law_drawn_pair : CalG P w K mg base 10 "_law_drawn_pair" ["_law_many", "_law_wires", "_law_fears_here", "_law_feared_here", "_law_one", "_law_other"] (sp__law_drawn_pair K)) (c__law_pair : CalG P w K mg base 10 "_law_pair" ["_law_many", "_law_wires", "_law_fears_here", "_law_feared_here", "_law_one", "_law_other"] (sp__law_pair K)) (c__law_mesh : Cal P w K mg base 2 "_law_mesh" ["_law_many"] (sp__law_mesh K)) (c_is_sturdy : Cal P w K mg base 9 "is_sturdy" ["many", "net", "fears"] (sp_is_sturdy K)) (c_dividing_lots : Cal P w K mg base 8 "dividing_lots" ["many", "net", "fears"] (sp_dividing_lots K)) (c__law_divided : Cal P w K mg base 2 "_law_divided" ["_law_many", "_law_wires", "_law_feared_here"] (sp__law_divided K)) (c__law_thin : Cal P w K mg base 3 "_law_thin" ["_law_well_here", "_law_many", "_law_feared_here"] (sp__law_thin K)) (c__law_net : Cal P w K mg base 3 "_law_net" ["_law_well_here", "_law_many"] (sp__law_net K)) (c__law_feared : Cal P w K mg base 2 "_law_feared" ["_law_many", "_law_fears_here"] (sp__law_feared K)) (c__law_fears : Cal P w K mg base 3 "_law_fears" ["_law_well_here", "_law_many"] (sp__law_fears K)) (c__law_well : Cal P w K mg base 1 "_law_well" ["_law_script"] (sp__law_well K)) : BodyG P w K mg base ["_law_script", "_law_well_here", "_law_many", "_law_fears_here", "_law_feared_here", "_law_wires", "_law_net_here", "_law_lots_here", "_law_pairs", "_law_at", "_law_one", "_law_other", "_law_lot", "_law_rest", "_law_house"] "law" Hd.s_law f 23 (fun t => t = rd_law P w K) :=
  fun cdv A outer s H E hG hr => ⟨_, (pss_cons (ps_set (i := 1) sc_law.nd rfl (Or.inl rfl) (pc c__law_well (hr.mono (by decide)) rfl (pa_cons (pv 0) pa_nil))) (pss_cons (ps_set (i := 2) sc_law.nd rfl (Or.inl rfl) (pe_ix ix_U (pe_tup (pa_cons pe_int (pa_cons pe_int (pa_cons pe_int (pa_cons pe_int (pa_cons pe_int (pa_cons pe_int (pa_cons pe_int pa_nil)))))))) (pc c__law_draw (hr.mono (by decide)) rfl (pa_cons (pv 1) (pa_cons pe_int pa_nil))) (fun _ _ => rfl))) (pss_cons (ps_set (i := 3) sc_law.nd rfl (Or.inl rfl) (pc c__law_fears (hr.mono (by decide)) rfl (pa_cons (pv 1) (pa_cons (pv 2) pa_nil)))) (pss_cons (ps_set (i := 4) sc_law.nd rfl (Or.inl rfl) (pc c__law_feared (hr.mono (by decide)) rfl (pa_cons (pv 2) (pa_cons (pv 3) pa_nil)))) (pss_cons (ps_set (i := 5) sc_law.nd rfl (Or.inl rfl) (pc c__law_net (hr.mono (by decide)) rfl (pa_cons (pv 1) (pa_cons (pv 2) pa_nil)))) (pss_cons (ps_if (pt_cmpR (op_eqU hr.units) (pc c__law_draw (hr.mono (by decide)) rfl (pa_cons (pv 1) (pa_cons pe_int pa_nil))) pe_int (nomark _)) (pss_one (ps_set (i := 5) sc_law.nd rfl (Or.inl rfl) (pc c__law_thin (hr.mono (by decide)) rfl (pa_cons (pv 1) (pa_cons (pv 2) (pa_cons (pv 4) pa_nil)))))) pss_nil) (pss_cons (ps_set (i := 6) sc_law.nd rfl (Or.inl rfl) (pc c__law_object (hr.mono (by decide)) rfl (pa_cons (pv 2) (pa_cons (pv 5) pa_nil)))) (pss_cons (ps_set (i := 7) sc_law.nd rfl (Or.inl rfl) (pc c__law_divided (hr.mono (by decide)) rfl (pa_cons (pv 2) (pa_cons (pv 5) (pa_cons (pv 4) pa_nil))))) (pss_cons (ps_if (pt_cmpR (op_neU hr.units) (pe_callB (cr_repr hG hr.units) (by rfl) T.b_repr (by decide +kernel) (pa_cons (pc c_dividing_lots (hr.mono (by decide)) rfl (pa_cons (pv 2) (pa_cons (pv 5) (pa_cons (pv 3) pa_nil)))) pa_nil)) (pe_callB (cr_repr hG hr.units) (by rfl) T.b_repr (by decide +kernel) (pa_cons (pe_callTy call_tupQ (by rfl) T.b_tuple (by decide +kernel) (pa_cons (pv 7) pa_nil)) pa_nil)) (nomark _)) (pss_one (ps_ret pe_bl)) pss_nil) (pss_cons (ps_if (pt_cmpR (op_neU hr.units) (pe_callB (cr_repr hG hr.units) (by rfl) T.b_repr (by decide +kernel) (pa_cons (pc c_is_sturdy (hr.mono (by decide)) rfl (pa_cons (pv 2) (pa_cons (pv 5) (pa_cons (pv 3) pa_nil)))) pa_nil)) (pe_callB (cr_repr hG hr.units) (by rfl) T.b_repr (by decide +kernel) (pa_cons (pe_cmpR (op_eqU hr.units) (pv 7) (pe_lst pa_nil) (nomark _)) pa_nil)) (nomark _)) (pss_one (ps_ret pe_bl)) pss_nil) (pss_cons (ps_set (i := 8) sc_law.nd rfl (Or.inl rfl) (pc c__law_mesh (hr.mono (by decide)) rfl (pa_cons (pv 2) pa_nil))) (pss_cons (ps_set (i := 9) sc_law.nd rfl (Or.inl rfl) (pc c__law_draw (hr.mono (by decide)) rfl (pa_cons (pv 1) (pa_cons (pe_callB call_lenQ (by rfl) T.b_len PySem.boot_len (pa_cons (pv 8) pa_nil)) pa_nil)))) (pss_cons (ps_for PassesOwn.never rfl (pi_seq (pe_slice sl_U (pe_op op_addU (pe_slice sl_U (pv 8) (po_some (pv 9)) po_none) (pe_slice sl_U (pv 8) po_none (po_some (pv 9)))) po_none (po_some pe_int))) (pg_tup (by rfl) (pgs_cons (pg_name (i := 10) sc_law.nd rfl (Or.inr rfl)) (pgs_cons (pg_name (i := 11) sc_law.nd rfl (Or.inr rfl)) pgs_nil))) (pss_one (ps_if (pt_not (pt_val (pcG c__law_pair hG (hr.mono (by decide)) rfl (pa_cons (pv 2) (pa_cons (pv 5) (pa_cons (pv 3) (pa_cons (pv 4) (pa_cons (pv 10) (pa_cons (pv 11) pa_nil))))))))) (pss_one (ps_ret pe_bl)) pss_nil))) (pss_cons (ps_asg (pe_tup (pa_cons (pe_ix ix_U (pe_ix ix_U (pv 8) (pv 9) (fun _ _ => rfl)) pe_int (fun _ _ => rfl)) (pa_cons (pe_ix ix_U (pe_ix ix_U (pv 8) (pv 9) (fun _ _ => rfl)) pe_int (fun _ _ => rfl)) pa_nil))) (pg_tup (by rfl) (pgs_cons (pg_name (i := 10) sc_law.nd rfl (Or.inr rfl)) (pgs_cons (pg_name (i := 11) sc_law.nd rfl (Or.inr rfl)) pgs_nil)))) (pss_cons (ps_if (pt_not (pt_val (pcG c__law_drawn_pair hG (hr.mono (by decide)) rfl (pa_cons (pv 2) (pa_cons (pv 5) (pa_cons (pv 3) (pa_cons (pv 4) (pa_cons (pv 10) (pa_cons (pv 11) pa_nil))))))))) (pss_one (ps_ret pe_bl)) pss_nil) (pss_cons (ps_set (i := 12) sc_law.nd rfl (Or.inl rfl) (pe_ix ix_U (pc c__law_lots (hr.mono (by decide)) rfl (pa_cons (pv 2) pa_nil)) (pc c__law_draw (hr.mono (by decide)) rfl (pa_cons (pv 1) (pa_cons (pe_op op_shl pe_int (pv 2)) pa_nil))) (fun _ _ => rfl))) (pss_cons (ps_if (PW.pt (pw_or (pt_not (pt_val (pcG c__law_sides hG (hr.mono (by decide)) rfl (pa_cons (pv 2) (pa_cons (pv 5) (pa_cons (pv 12) (pa_cons (pv 6) pa_nil))))))) (pw_or1 (pt_not (pt_val (pcG c__law_grounds hG (hr.mono (by decide)) rfl (pa_cons (pv 2) (pa_cons (pv 5) (pa_cons (pv 3) (pa_cons (pv 7) (pa_cons (pv 12) pa_nil))))))))))) (pss_one (ps_ret pe_bl)) pss_nil) (pss_cons (ps_set (i := 13) sc_law.nd rfl (Or.inl rfl) (pe_callTy call_tupQ (by rfl) T.b_tuple (by decide +kernel) (pa_cons (pe_lc (own := [("_law_house", 14)]) rfl sc_law.nd (pi_seq (pv 12)) (blkOk_by (by kernel_rfl)) (fun _ _ _ _ _ => (pg_name (i := 14) sc_law.nd rfl (by first | exact Or.inl rfl | exact Or.inr rfl))) (fun _ _ _ _ _ => (pts_one (pt_cmpR (op_notInU (units65 hr)) (pv 14) (pe_tup (pa_cons (pv 10) (pa_cons (pv 11) pa_nil))) (by rfl)))) (fun _ _ _ _ _ => (pv 14))) pa_nil))) (pss_cons (ps_if (pt_not (pt_val (pcG c__law_past hG (hr.mono (by decide)) rfl (pa_cons (pv 2) (pa_cons (pv 5) (pa_cons (pv 13) (pa_cons (pv 10) (pa_cons (pv 11) (pa_cons (pv 6) pa_nil))))))))) (pss_one (ps_ret pe_bl)) pss_nil) (pss_one (ps_ret (pe_and (pcG c__law_needed hG (hr.mono (by decide)) rfl (pa_cons (pv 2) (pa_cons (pv 5) (pa_cons (pv 3) (pa_cons (pv 4) pa_nil))))) (pe_and (pe_not (pe_cmpR (op_eqO (nt_meth_Net_eq T).at_ (nt_meth_Net_eq T).fn (nt_parts T).2.2.2.2.1 (nt_parts T).2.2.2.2.2.1 c_Net___eq__ (hr.mono (by decide))) (pv 6) (pv 5) (nomark _))) (pe_one (pe_cmpR (op_eqO (nt_meth_Net_eq T).at_ (nt_meth_Net_eq T).fn (nt_parts T).2.2.2.2.1 (nt_parts T).2.2.2.2.2.1 c_Net___eq__ (hr.mono (by decide))) (pv 6) (pc c__law_object (hr.mono (by decide)) rfl (pa_cons (pv 2) (pa_cons (pv 5) pa_nil))) (nomark _)))))))))))))))))))))))))), rfl⟩
end
end Dy
/-! ## Run20 -/
namespace Mi
open Dy
theorem lots_full {m : Int} : (lots m).length = 2 ^ m.toNat := by
  have e : ∀ n : Nat, (lotsN n).length = 2 ^ n := by
    intro n
    induction n with
    | zero => rfl
    | succ n ih =>
      rw [lotsN_succ, List.length_append, List.length_map, ih, Nat.pow_succ]
      omega
  unfold lots
  rw [sortT_len, lotsRaw_eq, e]
theorem at_memA {α : Type} [Inhabited α] {xs : List α} {k : Int} (h : 0 ≤ k ∧ k < xs.length) : at' xs k ∈ xs := by
  rw [at_get' h.1 h.2]
  exact List.getElem_mem _
theorem many_drawn {k : Int} (h : 0 ≤ k) (h1 : k < 7) : 2 ≤ at' ([4, 3, 5, 2, 6, 4, 5] : List Int) k ∧ at' ([4, 3, 5, 2, 6, 4, 5] : List Int) k ≤ 6 := by
  have z : ∀ x ∈ ([4, 3, 5, 2, 6, 4, 5] : List Int), 2 ≤ x ∧ x ≤ 6 := by decide
  exact z _ (at_memA ⟨h, by show k < ((7 : Nat) : Int); omega⟩)
theorem mesh_pair {m : Int} {p : Wire} (h2 : 2 ≤ m) (h : p ∈ mesh m) : PairOk m p.1 p.2 := by
  obtain ⟨z1, z2, z3⟩ := (mem_mesh (by omega)).mp h
  exact ⟨by omega, by omega, by omega, by omega, by omega⟩
theorem pair_flip {m a b : Int} (h : PairOk m a b) : PairOk m b a := ⟨h.2.2.1, h.2.2.2.1, h.1, h.2.1, fun e => h.2.2.2.2 e.symm⟩
theorem divided_small {m : Int} {fs : List Lot} {net : List Wire} (L : LawIn m fs net) : Small (divided m net (lawFeared m fs)) := by
  have h0 : 0 ≤ m := by have := L.m2; omega
  have sub : (divided m net (lawFeared m fs)).Sublist (lawFeared m fs) := List.filter_sublist
  exact small_lots h0 L.m6 ((lots_nd lawFeared_lt).sublist sub) fun l hl => ((mem_lawFeared h0).mp (sub.subset hl)).1
end Mi
namespace Dy
open PySem L2 PyProof.Rows Mi
local macro_rules | `(tactic| trivial) => `(tactic| (repeat (first | exact Le.stop | apply Le.same | apply Le.drop)); done)
section
variable {P : Program} {w : World} {K : Fg} {mg : Str → Option Value} {base : Heap}
theorem ee_fears {Γ : Ctx} {te : TE} {i : Int} {n : Nat} {m : Option Addr} {c : Well} (hw : Γ[n]? = some (.ow m (lstP (wellL c)))) (h : Ev K te Γ i) (hc : Ma c i) : EvE K (tCall (sp__law_fears K) [] E0 (tCons (tVar n) (tCons te tNil))) Γ (fearsW c i).1 (Γ.set n (.ow m (lstP (wellL (fearsW c i).2)))) := ee_dsp1 hw h hc
theorem ee_net {Γ : Ctx} {te : TE} {i : Int} {n : Nat} {m : Option Addr} {c : Well} (hw : Γ[n]? = some (.ow m (lstP (wellL c)))) (h : Ev K te Γ i) (hc : Ma c i) : EvE K (tCall (sp__law_net K) [] E0 (tCons (tVar n) (tCons te tNil))) Γ (netW c i).1 (Γ.set n (.ow m (lstP (wellL (netW c i).2)))) := ee_dsp1 hw h hc
theorem ee_thin {Γ : Ctx} {te : TE} {i : Int} {n n' : Nat} {m m' : Option Addr} {c : Well} {x : List Lot} (hw : Γ[n]? = some (.ow m (lstP (wellL c)))) (h : Ev K te Γ i) (hx : Γ[n']? = some (.ow m' (lstP x))) (hn : n ≠ n') (hc : Ma c i ∧ [] ∈ x ∧ x.length ≤ 1000) : EvE K (tCall (sp__law_thin K) [] E0 (tCons (tVar n) (tCons te (tCons (tVar n') tNil)))) Γ (thinW c i ⟨x⟩).1 (Γ.set n (.ow m (lstP (wellL (thinW c i ⟨x⟩).2)))) := ee_dsp2 hw h hx hn hc
theorem run_law (T : Hd.Tx K mg) (x1 : Scr) (hp : ScriptOk x1.l) : Run K (rd_law P w K) [.bs x1, .any, .any, .any, .any, .any, .any, .any, .any, .any, .any, .any, .any, .any, .any] (.ret true []) := by
  refine r_seq (r_setL (ev_sp1 (ea_cons (ev_bs rfl) ea_nil) hp)) ?_
  have w0 := well_ok hp
  generalize wellW x1.l = c0 at w0 ⊢
  refine r_seq (r_setE (ee_atT (xs := ([4, 3, 5, 2, 6, 4, 5] : List Int)) (ev_tup (eal_cons ev_int (eal_cons ev_int (eal_cons ev_int (eal_cons ev_int (eal_cons ev_int (eal_cons ev_int (eal_cons ev_int eal_nil)))))))) (ee_draw rfl ev_int w0 (by decide)) ⟨draw_lo, draw_lt (by decide)⟩)) ?_
  have hm := many_drawn (draw_lo (c := c0) (n := 7)) (draw_lt (by decide))
  have w1 := draw_ok (n := 7) w0
  generalize at' ([4, 3, 5, 2, 6, 4, 5] : List Int) (drawW c0 7).1 = m at hm ⊢
  generalize (drawW c0 7).2 = c1 at w1 ⊢
  obtain ⟨m2, m6⟩ := hm
  refine r_seq (r_setE (ee_fears rfl (ev_fz rfl) ⟨w1, m2, m6⟩)) ?_
  obtain ⟨w2, hf, h20⟩ := fears_in (c := c1) (m := m) ⟨w1, m2, m6⟩
  generalize (fearsW c1 m).1 = fs at hf h20 ⊢
  generalize (fearsW c1 m).2 = c2 at w2 ⊢
  refine r_seq (r_setL (ev_sp2 (ea_cons (ev_fz rfl) (ea_cons (ev_fz rfl) ea_nil)) ⟨by omega, m6⟩)) ?_
  have fe0 := nil_feared (by omega) hf
  have fl64 : (lawFeared m fs).length ≤ 64 := lots_small (by omega) m6 (lots_nd lawFeared_lt) fun l hl => ((mem_lawFeared (by omega)).mp hl).1
  refine r_seq (r_setE (ee_net rfl (ev_fz rfl) ⟨w2, m2, m6⟩)) ?_
  obtain ⟨w3, hn⟩ := net_in (c := c2) (m := m) ⟨w2, m2, m6⟩
  generalize (netW c2 m).1 = net0 at hn ⊢
  generalize (netW c2 m).2 = c3 at w3 ⊢
  have w4 := draw_ok (n := 3) w3
  refine r_seq (Γ1 := [.bs x1, .ow none (lstP (wellL (if decide ((drawW c3 3).1 = 2) = true then (thinW (drawW c3 3).2 m ⟨lawFeared m fs⟩).2 else (drawW c3 3).2))), .fz m, .fz fs, .ol (lawFeared m fs), .fz (if decide ((drawW c3 3).1 = 2) = true then (thinW (drawW c3 3).2 m ⟨lawFeared m fs⟩).1 else net0), .any, .any, .any, .any, .any, .any, .any, .any, .any]) ?_ ?_
  · refine r_ifE (te_eq (ee_draw rfl ev_int w3 (by decide)) ev_int) (fun q => ?_) (fun q => ?_)
    · rw [if_pos q, if_pos q]
      exact r_le (r_setE (ee_thin rfl (ev_fz rfl) rfl (by decide) ⟨⟨w4, m2, m6⟩, fe0, by omega⟩)) (by trivial)
    · rw [if_neg (by rw [q]; decide), if_neg (by rw [q]; decide)]
      exact r_le r_next (by trivial)
  obtain ⟨w5, hn5⟩ : WellOk (if decide ((drawW c3 3).1 = 2) = true then (thinW (drawW c3 3).2 m ⟨lawFeared m fs⟩).2 else (drawW c3 3).2) ∧ NetOk m (if decide ((drawW c3 3).1 = 2) = true then (thinW (drawW c3 3).2 m ⟨lawFeared m fs⟩).1 else net0) := by
    have t := thin_in (c := (drawW c3 3).2) (m := m) (f := ⟨lawFeared m fs⟩) ⟨w4, m2, m6⟩ fe0
    split
    · exact t
    · exact ⟨w4, hn⟩
  generalize (if decide ((drawW c3 3).1 = 2) = true then (thinW (drawW c3 3).2 m ⟨lawFeared m fs⟩).2 else (drawW c3 3).2) = c at w5 ⊢
  generalize (if decide ((drawW c3 3).1 = 2) = true then (thinW (drawW c3 3).2 m ⟨lawFeared m fs⟩).1 else net0) = net at hn5 ⊢
  have L : LawIn m fs net := ⟨m2, m6, hf, h20, hn5⟩
  have nl := net_len hn5 m6
  have sm := divided_small L
  have dl := sm.1
  refine r_seq (r_set (EvN.ev (ev_sp2 (ea_cons (ev_fz rfl) (ea_cons (ev_fz rfl) ea_nil)) L.net6))) ?_
  refine r_seq (r_setL (ev_sp3 (ea_cons (ev_fz rfl) (ea_cons (Ev.sqT (ev_fz rfl)) (ea_cons (ev_ow rfl) ea_nil))) ⟨⟨by omega, by omega, by show net.length ≤ 1000; omega⟩, by show (lawFeared m fs).length ≤ 1000; omega⟩)) ?_
  refine r_ifS (et_neRepr (EvN.ev (ev_sp3 (ea_cons (ev_fz rfl) (ea_cons (ev_fz rfl) (ea_cons (ev_fz rfl) ea_nil))) ⟨L.net6, L.fear6⟩)) (ev_tupL (Ev.sqL (ev_ow rfl))) (dividing_eq L.hw) (by rw [dividing_eq L.hw]; exact shows_lots sm)) (fun h1 => nomatch h1) (fun _ => r_skip ?_)
  refine r_ifS (et_neRepr (EvN.ev (ev_sp3 (ea_cons (ev_fz rfl) (ea_cons (ev_fz rfl) (ea_cons (ev_fz rfl) ea_nil))) ⟨L.net6, L.fear6⟩)) (ev_eqU (α := Lst Lot) (ev_ow rfl) (EvN.ev (ev_lst (eal_nil (α := Lot))))) (by rw [sturdy_iff L.hw]; exact decide_eq_decide.mpr ⟨fun z => congrArg Lst.mk z, Lst.mk.inj⟩) (shows_bool _)) (fun h1 => nomatch h1) (fun _ => r_skip ?_)
  refine r_seq (r_setL (ev_sp1 (ea_cons (ev_fz rfl) ea_nil) ⟨by omega, m6⟩)) ?_
  have ml := net_len (mesh_ok (m := m) ⟨by omega, m6⟩) m6
  have mp : 0 < ((mesh m).length : Int) := by
    have := List.length_pos_iff.mpr (mesh_ne m2)
    omega
  refine r_seq (r_setE (ee_draw rfl (ev_len (Ev.sqL (ev_ow rfl))) w5 (by omega))) ?_
  have a0 := draw_lo (c := c) (n := ((mesh m).length : Int))
  have a1 := draw_lt (c := c) mp
  have w6 := draw_ok (n := ((mesh m).length : Int)) w5
  generalize (drawW c ((mesh m).length : Int)).1 = a at a0 a1 ⊢
  generalize (drawW c ((mesh m).length : Int)).2 = c6 at w6 ⊢
  refine r_seq (r_forN (xs := cutX (cutX (mesh m) (some a) none ++ cutX (mesh m) none (some a)) none (some 6)) (S := fun _ => [.bs x1, .ow none (lstP (wellL c6)), .fz m, .fz fs, .ol (lawFeared m fs), .fz net, .fz (NetO.mk m net), .ol (divided m net (lawFeared m fs)), .ol (mesh m), .fz a, .any, .any, .any, .any, .any]) (ef_new (ev_sliceL (EvN.ev (ev_addL (EvN.ev (ev_sliceL (ev_ow rfl) (eo_some (ev_fz rfl)) eo_none)) (EvN.ev (ev_sliceL (ev_ow rfl) eo_none (eo_some (ev_fz rfl)))) ?_)) eo_none (eo_some ev_int))) (by trivial) (fun pre x => eg_pair) (fun pre x post e => ?_)) ?_
  · have q1 := cutX_len (mesh m) (some a) none
    have q2 := cutX_len (mesh m) none (some a)
    unfold LIM
    omega
  · have hx : x ∈ cutX (cutX (mesh m) (some a) none ++ cutX (mesh m) none (some a)) none (some 6) := by rw [e]; simp
    have mem_cut : ∀ {lo hi : Option Int} {xs : List Wire}, x ∈ cutX xs lo hi → x ∈ xs := fun z => by
      unfold cutX at z
      exact List.mem_of_mem_drop (List.mem_of_mem_take z)
    have hx : x ∈ mesh m := (List.mem_append.mp (mem_cut hx)).elim mem_cut mem_cut
    exact r_if (et_not (et_B (EvN.ev (ev_sp6 (ea_cons (ev_fz rfl) (ea_cons (ev_fz rfl) (ea_cons (ev_fz rfl) (ea_cons (ev_ow rfl) (ea_cons (ev_fz rfl) (ea_cons (ev_fz rfl) ea_nil)))))) (pair_law L (mesh_pair m2 hx)))))) (fun h1 => nomatch h1) (fun _ => r_le r_next (by trivial))
  refine r_seq (r_asg (ev_pair (ev_snd (ev_at (Ev.sqL (ev_ow rfl)) (ev_fz rfl) ⟨a0, a1⟩)) (ev_fst (ev_at (Ev.sqL (ev_ow rfl)) (ev_fz rfl) ⟨a0, a1⟩))) eg_pair) ?_
  have hp2 := pair_flip (mesh_pair m2 (at_memA (xs := mesh m) ⟨a0, a1⟩))
  generalize at' (mesh m) a = p at hp2 ⊢
  obtain ⟨p1, p2⟩ := p
  dsimp only at hp2 ⊢
  refine r_ifS (et_not (et_B (EvN.ev (ev_sp6 (ea_cons (ev_fz rfl) (ea_cons (ev_fz rfl) (ea_cons (ev_fz rfl) (ea_cons (ev_ow rfl) (ea_cons (ev_fz rfl) (ea_cons (ev_fz rfl) ea_nil)))))) (drawn_law L hp2))))) (fun h1 => nomatch h1) (fun _ => r_skip ?_)
  have e2 : (1 : Int) * 2 ^ m.toNat = ((lots m).length : Int) := by
    rw [lots_full, Int.one_mul]
    push_cast
    rfl
  have ll := lots_len m6
  have lp : 0 < ((lots m).length : Int) := by
    have := List.length_pos_iff.mpr (List.ne_nil_of_mem ((mem_lots (m := m) (by omega)).mpr lot_nil))
    omega
  have b0 := draw_lo (c := c6) (n := (1 : Int) * 2 ^ m.toNat)
  have b1 : (drawW c6 ((1 : Int) * 2 ^ m.toNat)).1 < ((lots m).length : Int) := by
    rw [e2]
    exact draw_lt lp
  refine r_seq (r_setE (ee_atL (ev_sp1 (ea_cons (ev_fz rfl) ea_nil) ⟨by omega, m6⟩) (ee_draw rfl (ev_shl ev_int (ev_fz rfl) ⟨by omega, by omega, by decide⟩) w6 (by rw [e2]; omega)) ⟨b0, b1⟩)) ?_
  have hlot := (mem_lots (m := m) (by omega)).mp (at_memA ⟨b0, b1⟩)
  generalize at' (lots m) (drawW c6 ((1 : Int) * 2 ^ m.toNat)).1 = lot at hlot ⊢
  refine r_ifS (et_or (et_not (et_B (EvN.ev (ev_sp4 (ea_cons (ev_fz rfl) (ea_cons (ev_fz rfl) (ea_cons (ev_fz rfl) (ea_cons (ev_fz rfl) ea_nil)))) ⟨rfl, L.net6, hlot⟩)))) (fun _ => et_not (et_B (EvN.ev (ev_sp5 (ea_cons (ev_fz rfl) (ea_cons (ev_fz rfl) (ea_cons (ev_fz rfl) (ea_cons (ev_ow rfl) (ea_cons (ev_fz rfl) ea_nil))))) (grounds_law L hlot)))))) (fun h1 => nomatch h1) (fun _ => r_skip ?_)
  refine r_seq (r_set (x := lot.filter fun h => !decide (h ∈ [p2, p1])) (ev_tupL (Ev.sqL (EvN.ev (EvN.is (ev_lc (f := fun (h : Int) => h) (ei_seq (Ev.sqT (ev_fz rfl))) (fun x hx => eg_name) (fun x hx => et_test (ev_notIn (xs := [p2, p1]) (ev_fz rfl) (Ev.sqT (ev_tup (eal_cons (ev_fz rfl) (eal_cons (ev_fz rfl) eal_nil)))))) (fun x hx hp => ev_fz rfl)) (by rw [List.map_id'])))))) ?_
  have hpast : PastIn m net (lot.filter fun h => !decide (h ∈ [p2, p1])) p2 p1 := ⟨L.net6, ⟨hlot.1.filter _, fun x hx => hlot.2 x (List.mem_filter.mp hx).1⟩, hp2, fun z => by
    have := (List.mem_filter.mp z).2
    simp at this, fun z => by
    have := (List.mem_filter.mp z).2
    simp at this⟩
  generalize (lot.filter fun h => !decide (h ∈ [p2, p1])) = rest at hpast ⊢
  refine r_ifS (et_not (et_B (EvN.ev (ev_sp6 (ea_cons (ev_fz rfl) (ea_cons (ev_fz rfl) (ea_cons (ev_fz rfl) (ea_cons (ev_fz rfl) (ea_cons (ev_fz rfl) (ea_cons (ev_fz rfl) ea_nil)))))) ⟨rfl, hpast⟩)))) (fun h1 => nomatch h1) (fun _ => r_skip ?_)
  exact r_retIs (ev_andV (EvN.ev (ev_sp4 (ea_cons (ev_fz rfl) (ea_cons (ev_fz rfl) (ea_cons (ev_fz rfl) (ea_cons (ev_ow rfl) ea_nil)))) ⟨rfl, L⟩)) (fun _ => ev_andV (ev_notV (ev_eqNT (ev_fz rfl) (ev_fz rfl))) (fun _ => ev_eqN (ev_fz rfl) (EvN.ev (ev_sp2 (ea_cons (ev_fz rfl) (ea_cons (ev_fz rfl) ea_nil)) L.net6))))) (by simp)
end
end Dy
/-! ## End1 -/
namespace Dy
open PySem L2 PyProof.Rows Mi
section
variable {P : Program} {w : World} {K : Fg} {mg : Str → Option Value} {base : Heap} {f : Addr} {fd : FuncData} {name qual : Str} {st : Stmt} {N : List Str} {k : Nat}
theorem fnG1 {α γ : Type} [Par α] [Enc γ] {p : Str} {pre : α → Prop} {g : α → γ} (F : FnP K name qual st f fd) (S : FnScope N [p] (defScope st)) (hN : 1 ≤ N.length)
    (hb : BodyG P w K mg base N qual st f k fun t => ∀ x, pre x → Run K t ([Par.ent x] ++ anys (N.length - 1)) (.ret (g x) [])) : FnG P w K mg base (k + 1) f fd [p] (sp1 K pre g) :=
  fng_of F S (fun vs H Q E h => by
    obtain ⟨_, ⟨_, ⟨_, _, rfl, _, rfl⟩, _⟩, _⟩ := h
    rfl) fun cdv A outer s H vs Q E hG hr h => by
    obtain ⟨t, h1, h2⟩ := hb cdv A outer s H E hG hr
    obtain ⟨y, ⟨x, ⟨v, _, rfl, r, rfl⟩, hp, rfl⟩, q⟩ := h
    exact ⟨t, PSs.nox h1, go_run (Γ := [Par.ent x]) hN (.cons (Par.ok r) (Par.noow x) .nil) (h2 x hp) q⟩
/-- the call of the law where nothing but the script is known -/
theorem call_core {mb : Str → Option Value} {fa a : Addr} {x : Str} {sp : Sp} {s : Shared} {vs : List Value} {H : Hp} (inK : K.In s.heap) (gl : s.heap.Ns mainGlobals mg) (bl : s.heap.Ns builtinsNs mb) (bb : ∀ y : Str, y ≠ "__name__" → mb y = bootBuiltins y)
    (nol : s.heap.NoLimit) (gens : s.gens = #[]) (ob : s.heap.get? a = some { cls := .type "list", data := .seq vs.toArray }) (room : Room k callerA) (F : ∀ base : Heap, K.In base → base.Ns mainGlobals mg → FnG P w K mg base k fa fd [x] sp)
    (bd : ∀ (s : Shared) (u : Value), BindsTo s fd ⟨[u], []⟩ [(x, u)]) (hO : Only H) (hok : HOk P w H s.heap) (one : ∀ b, H b ≠ none → b = a) (fre : H a ≠ none → K.lookup a = none) (h : sp [.ref a] H (fun v _ => v = .bl true) E0) :
    codeAny (model P w) callerA (.call (.ref fa) ⟨[.ref a], []⟩) (fun r z => r = .ok (.ret (.bool true)) ∧ OldK s.heap z.heap ∧ z.os = s.os ∧ AllBare z.gens) s := by
  have hid : ∀ {b : Addr} {o : Obj}, s.heap.get? b = some o → H b = none → (hidT s.heap H).get? b = some o := fun p n => hidT_get p n
  have dic : ∀ {b : Addr} {o : Obj} {es : Array DictEntry} {n : Nat}, s.heap.get? b = some o → o.data = .dict es n → H b = none := fun {b o es n} p d => by
    by_cases q : H b = none
    · exact q
    · rw [one b q, ob] at p
      cases p
      cases (show Data.seq vs.toArray _ = Data.dict es n from d)
  have ns : ∀ {b : Addr} {m : Str → Option Value}, s.heap.Ns b m → (hidT s.heap H).Ns b m := fun ⟨o, es, n, p, d, r⟩ => ⟨o, es, n, hid p (dic p d), d, r⟩
  have inB : K.In (hidT s.heap H) := fun b o p => hid (inK b o p) (by
    by_cases q : H b = none
    · exact q
    · have e := one b q
      subst e
      rw [fre q] at p
      cases p)
  obtain ⟨mc, n1, n2⟩ := nol
  have env : Env0 P w K mg (hidT s.heap H) callerA [] s H := ⟨rfl, ⟨inB, ns gl, ⟨mb, ns bl, bb⟩, mc, ns n1, n2⟩, fun b o p => of_hidT p, Nat.le_of_eq (hidT_size _ _), trivial, fun b z => absurd (show b ∈ ([] : List Addr) from z) (by simp), hok, .of_eq gens⟩
  refine codeAny_mono ((F _ inB (ns gl)).run callerA [] s H ⟨[.ref a], []⟩ [.ref a] [.ref a] _ E0 rfl room env (bd s (.ref a)) (.cons rfl .nil) h) fun r z q => ?_
  cases r with
  | error e => exact q.elim
  | ok fl =>
    cases fl with
    | ret u =>
      obtain ⟨v, H2, os, bare, un, hok2, rv, qv⟩ := q
      have qv : v = .bl true := qv
      subst qv
      have rv : u = Value.bool true := rv
      subst rv
      refine ⟨rfl, OldK.of_keep fun b o p => ?_, os, bare⟩
      rcases hO b with c | ⟨o2, xs, c⟩
      · exact un.keep b o p c (fun y => absurd (show b ∈ ([] : List Addr) from y) (by simp)) (by simp)
      · obtain ⟨p1, _⟩ := hok b _ c
        obtain ⟨p2, _⟩ := hok2 b _ (un.frzs b o2 _ c)
        rw [p] at p1
        cases p1
        exact p2
    | _ => exact False.elim q
theorem call_law {mb : Str → Option Value} {fa a : Addr} {x : Str} {sp : Sp} {s : Shared} {vs : List Value} {ns : List Int} (inK : K.In s.heap) (gl : s.heap.Ns mainGlobals mg) (bl : s.heap.Ns builtinsNs mb) (bb : ∀ y : Str, y ≠ "__name__" → mb y = bootBuiltins y)
    (nol : s.heap.NoLimit) (gens : s.gens = #[]) (ob : s.heap.get? a = some { cls := .type "list", data := .seq vs.toArray }) (iv : IntsAre vs ns) (len : ns.length ≤ sizeLine) (room : Room k callerA) (F : ∀ base : Heap, K.In base → base.Ns mainGlobals mg → FnG P w K mg base k fa fd [x] sp)
    (bd : ∀ (s : Shared) (u : Value), BindsTo s fd ⟨[u], []⟩ [(x, u)]) (h : ∀ H : Hp, SqL K H a (ns.map V.int) → sp [.ref a] H (fun v _ => v = .bl true) E0) :
    codeAny (model P w) callerA (.call (.ref fa) ⟨[.ref a], []⟩) (fun r z => r = .ok (.ret (.bool true)) ∧ OldK s.heap z.heap ∧ z.os = s.os ∧ AllBare z.gens) s := by
  have rv := vals_ints iv
  have eq := iv.length
  by_cases q : K.lookup a = none
  · let one : HO := .frz { cls := .type "list", data := .seq vs.toArray } (.lst (ns.map V.int))
    have yes : ∀ b, b = a → (fun c => if c = a then some one else none : Hp) b = some one := fun b z => if_pos z
    have no : ∀ b, b ≠ a → (fun c => if c = a then some one else none : Hp) b = none := fun b z => if_neg z
    refine call_core inK gl bl bb nol gens ob room F bd (H := fun c => if c = a then some one else none) (fun b => ?_) (fun b u z => ?_) (fun b z => ?_) (fun _ => q) (h _ (.inl (.inr ⟨_, yes a rfl⟩)))
    · by_cases z : b = a
      · exact .inr ⟨_, _, yes b z⟩
      · exact .inl (no b z)
    · by_cases y : b = a
      · have z := (yes b y).symm.trans z
        cases z
        subst y
        exact ⟨ob, by rw [List.length_map]; exact len, vs, _, rv, ob⟩
      · cases (no b y).symm.trans z
    · by_cases y : b = a
      · exact y
      · exact absurd (no b y) z
  · obtain ⟨o, hk⟩ := Option.ne_none_iff_exists'.mp q
    have e := inK a o hk
    rw [ob] at e
    cases e
    refine call_core inK gl bl bb nol gens ob room F bd (H := fun _ => none) (fun _ => .inl rfl) (fun b u z => nomatch (show (none : Option HO) = some u from z)) (fun b z => absurd rfl z) (fun z => absurd rfl z) (h _ (.inr ⟨_, vs.toArray, _, hk, rfl, rfl, rfl, ?_, by simpa using rv⟩))
    rw [List.size_toArray, eq]
    exact len
end
theorem bits_log {z : Int} (h : Builtin.Int.intBits z ≤ 1048576) : z.natAbs.log2 ≤ 2000000 := by
  unfold
          Builtin.Int.intBits at h
  split at h
  · rename_i e
    have : z.natAbs = 0 := by simpa using e
    rw [this, Nat.log2_zero]
    omega
  · omega
end Dy
/-! ## Cb -/
namespace Dy
open PySem L2 PyProof.Rows Mi
section
variable {P : Program} {w : World} {K : Fg} {mg : Str → Option Value} {base : Heap} {f : Addr} {fd : FuncData} {name qual : Str} {st : Stmt} {N : List Str} {k : Nat} {α1 α2 : Type}
/-- a def that ends without a return -/
theorem fn2N [Par α1] [Par α2] {p1 p2 : Str} {pre : α1 → α2 → Prop} (F : FnP K name qual st f fd) (S : FnScope N [p1, p2] (defScope st)) (hN : 2 ≤ N.length)
    (hb : BodyOk P w K mg base N qual st f k fun t => ∀ x1 x2, pre x1 x2 → ∃ Γ', Run K t ([Par.ent x1, Par.ent x2] ++ anys (N.length - 2)) (.next Γ' : Out Unit)) : FnOk P w K mg base CX0 (k + 1) f fd [p1, p2] (sp2 K pre fun _ _ => ()) := by
  refine F.ok S (fun vs H Q E h => ?_) (fun cdv A outer s H vs Q E hr h => ?_)
  · obtain ⟨_, ⟨_, _, ⟨_, _, rfl, _, _, _, rfl, _, rfl⟩, _⟩, _⟩ := h
    rfl
  · obtain ⟨t, h1, h2⟩ := hb cdv A outer s H E hr
    obtain ⟨y, ⟨x1, x2, ⟨v1, _, rfl, r1, v2, _, rfl, r2, rfl⟩, hp, rfl⟩, q⟩ := h
    obtain ⟨Γ', h3⟩ := h2 x1 x2 hp
    have hl : [v1, v2].length ≤ N.length := hN
    exact ⟨t, PSs.nox h1, h3 H (fun _ => none) (L2.start N [v1, v2]) H _ (kn_start (Γ := [Par.ent x1, Par.ent x2]) (.cons (Par.ok r1) (Par.noow x1) (.cons (Par.ok r2) (Par.noow x2) .nil)) hl) fun σ' H' k' => q .non H' k'.exB rfl True.intro⟩
end
end Dy
/-! ## Ca1 -/
namespace Dy
open PySem L2 PyProof.Rows Mi
section
variable {P : Program} {w : World} {K : Fg} {mg : Str → Option Value} {base : Heap}

theorem ca_integer_fits (T : Hd.Tx K mg)  : Cal P w K mg base 1 "integer_fits" ["thing"] (sp_integer_fits K) := by
  obtain ⟨fd, F⟩ := T.f_integer_fits
  refine ⟨⟨_, fd, fn1 F sc_integer_fits (by decide) (fun cdv A outer s H E hr => ?_), T.g_integer_fits, F.kp, F.bindsN (fun _ _ _ _ _ _ us hl => match us, hl with | [_], _ => rfl)⟩⟩
  obtain ⟨t, h, e⟩ := tm_integer_fits T  (f := He.ga K "integer_fits") cdv A outer s H E hr
  exact ⟨t, h, fun x1 hp => by rw [e]; exact run_integer_fits x1⟩
theorem ca_number_fits (T : Hd.Tx K mg) (c_integer_fits : Cal P w K mg base 1 "integer_fits" ["thing"] (sp_integer_fits K)) : Cal P w K mg base 2 "number_fits" ["thing"] (sp_number_fits K) := by
  obtain ⟨fd, F⟩ := T.f_number_fits
  refine ⟨⟨_, fd, fn1 F sc_number_fits (by decide) (fun cdv A outer s H E hr => ?_), T.g_number_fits, F.kp, F.bindsN (fun _ _ _ _ _ _ us hl => match us, hl with | [_], _ => rfl)⟩⟩
  obtain ⟨t, h, e⟩ := tm_number_fits T c_integer_fits (f := He.ga K "number_fits") cdv A outer s H E hr
  exact ⟨t, h, fun x1 hp => by rw [e]; exact run_number_fits x1⟩
theorem ca_many_fits (T : Hd.Tx K mg) (c_integer_fits : Cal P w K mg base 1 "integer_fits" ["thing"] (sp_integer_fits K)) : Cal P w K mg base 2 "many_fits" ["thing"] (sp_many_fits K) := by
  obtain ⟨fd, F⟩ := T.f_many_fits
  refine ⟨⟨_, fd, fn1 F sc_many_fits (by decide) (fun cdv A outer s H E hr => ?_), T.g_many_fits, F.kp, F.bindsN (fun _ _ _ _ _ _ us hl => match us, hl with | [_], _ => rfl)⟩⟩
  obtain ⟨t, h, e⟩ := tm_many_fits T c_integer_fits (f := He.ga K "many_fits") cdv A outer s H E hr
  exact ⟨t, h, fun x1 hp => by rw [e]; exact run_many_fits x1⟩
theorem ca_sizes_fit (T : Hd.Tx K mg) (c_many_fits : Cal P w K mg base 2 "many_fits" ["thing"] (sp_many_fits K)) : Cal P w K mg base 3 "sizes_fit" ["thing"] (sp_sizes_fit K) := by
  obtain ⟨fd, F⟩ := T.f_sizes_fit
  refine ⟨⟨_, fd, fn1 F sc_sizes_fit (by decide) (fun cdv A outer s H E hr => ?_), T.g_sizes_fit, F.kp, F.bindsN (fun _ _ _ _ _ _ us hl => match us, hl with | [_], _ => rfl)⟩⟩
  obtain ⟨t, h, e⟩ := tm_sizes_fit T c_many_fits (f := He.ga K "sizes_fit") cdv A outer s H E hr
  exact ⟨t, h, fun x1 hp => by rw [e]; exact run_sizes_fit x1 hp⟩
theorem ca_house_fits (T : Hd.Tx K mg) (c_number_fits : Cal P w K mg base 2 "number_fits" ["thing"] (sp_number_fits K)) : Cal P w K mg base 3 "house_fits" ["many", "thing"] (sp_house_fits K) := by
  obtain ⟨fd, F⟩ := T.f_house_fits
  refine ⟨⟨_, fd, fn2 F sc_house_fits (by decide) (fun cdv A outer s H E hr => ?_), T.g_house_fits, F.kp, F.bindsN (fun _ _ _ _ _ _ us hl => match us, hl with | [_, _], _ => rfl)⟩⟩
  obtain ⟨t, h, e⟩ := tm_house_fits T c_number_fits (f := He.ga K "house_fits") cdv A outer s H E hr
  exact ⟨t, h, fun x1 x2 hp => by rw [e]; exact run_house_fits x1 x2⟩
theorem ca_lot_fits (T : Hd.Tx K mg) (c_house_fits : Cal P w K mg base 3 "house_fits" ["many", "thing"] (sp_house_fits K)) : Cal P w K mg base 4 "lot_fits" ["many", "thing"] (sp_lot_fits K) := by
  obtain ⟨fd, F⟩ := T.f_lot_fits
  refine ⟨⟨_, fd, fn2 F sc_lot_fits (by decide) (fun cdv A outer s H E hr => ?_), T.g_lot_fits, F.kp, F.bindsN (fun _ _ _ _ _ _ us hl => match us, hl with | [_, _], _ => rfl)⟩⟩
  obtain ⟨t, h, e⟩ := tm_lot_fits T c_house_fits (f := He.ga K "lot_fits") cdv A outer s H E hr
  exact ⟨t, h, fun x1 x2 hp => by rw [e]; exact run_lot_fits x1 x2 hp⟩
theorem ca_is_lots (T : Hd.Tx K mg) (c_lot_fits : Cal P w K mg base 4 "lot_fits" ["many", "thing"] (sp_lot_fits K)) : Cal P w K mg base 5 "is_lots" ["many", "thing"] (sp_is_lots K) := by
  obtain ⟨fd, F⟩ := T.f_is_lots
  refine ⟨⟨_, fd, fn2 F sc_is_lots (by decide) (fun cdv A outer s H E hr => ?_), T.g_is_lots, F.kp, F.bindsN (fun _ _ _ _ _ _ us hl => match us, hl with | [_, _], _ => rfl)⟩⟩
  obtain ⟨t, h, e⟩ := tm_is_lots T c_lot_fits (f := He.ga K "is_lots") cdv A outer s H E hr
  exact ⟨t, h, fun x1 x2 hp => by rw [e]; exact run_is_lots x1 x2 hp⟩
theorem ca_lot_within (T : Hd.Tx K mg)  : Cal P w K mg base 1 "lot_within" ["one", "other"] (sp_lot_within K) := by
  obtain ⟨fd, F⟩ := T.f_lot_within
  refine ⟨⟨_, fd, fn2 F sc_lot_within (by decide) (fun cdv A outer s H E hr => ?_), T.g_lot_within, F.kp, F.bindsN (fun _ _ _ _ _ _ us hl => match us, hl with | [_, _], _ => rfl)⟩⟩
  obtain ⟨t, h, e⟩ := tm_lot_within T  (f := He.ga K "lot_within") cdv A outer s H E hr
  exact ⟨t, h, fun x1 x2 hp => by rw [e]; exact run_lot_within x1 x2⟩
theorem ca_others_in (T : Hd.Tx K mg)  : Cal P w K mg base 1 "others_in" ["many", "lot"] (sp_others_in K) := by
  obtain ⟨fd, F⟩ := T.f_others_in
  refine ⟨⟨_, fd, fn2 F sc_others_in (by decide) (fun cdv A outer s H E hr => ?_), T.g_others_in, F.kp, F.bindsN (fun _ _ _ _ _ _ us hl => match us, hl with | [_, _], _ => rfl)⟩⟩
  obtain ⟨t, h, e⟩ := tm_others_in T  (f := He.ga K "others_in") cdv A outer s H E hr
  exact ⟨t, h, fun x1 x2 hp => by rw [e]; exact run_others_in x1 x2 hp⟩
theorem ca_wire_between (T : Hd.Tx K mg)  : Cal P w K mg base 1 "wire_between" ["one", "other"] (sp_wire_between K) := by
  obtain ⟨fd, F⟩ := T.f_wire_between
  refine ⟨⟨_, fd, fn2 F sc_wire_between (by decide) (fun cdv A outer s H E hr => ?_), T.g_wire_between, F.kp, F.bindsN (fun _ _ _ _ _ _ us hl => match us, hl with | [_, _], _ => rfl)⟩⟩
  obtain ⟨t, h, e⟩ := tm_wire_between T  (f := He.ga K "wire_between") cdv A outer s H E hr
  exact ⟨t, h, fun x1 x2 hp => by rw [e]; exact run_wire_between x1 x2⟩
theorem ca_wire_fits (T : Hd.Tx K mg) (c_house_fits : Cal P w K mg base 3 "house_fits" ["many", "thing"] (sp_house_fits K)) : Cal P w K mg base 4 "wire_fits" ["many", "thing"] (sp_wire_fits K) := by
  obtain ⟨fd, F⟩ := T.f_wire_fits
  refine ⟨⟨_, fd, fn2 F sc_wire_fits (by decide) (fun cdv A outer s H E hr => ?_), T.g_wire_fits, F.kp, F.bindsN (fun _ _ _ _ _ _ us hl => match us, hl with | [_, _], _ => rfl)⟩⟩
  obtain ⟨t, h, e⟩ := tm_wire_fits T c_house_fits (f := He.ga K "wire_fits") cdv A outer s H E hr
  exact ⟨t, h, fun x1 x2 hp => by rw [e]; exact run_wire_fits x1 x2 hp⟩
theorem ca_two_fit (T : Hd.Tx K mg) (c_house_fits : Cal P w K mg base 3 "house_fits" ["many", "thing"] (sp_house_fits K)) : Cal P w K mg base 4 "two_fit" ["many", "one", "other"] (sp_two_fit K) := by
  obtain ⟨fd, F⟩ := T.f_two_fit
  refine ⟨⟨_, fd, fn3 F sc_two_fit (by decide) (fun cdv A outer s H E hr => ?_), T.g_two_fit, F.kp, F.bindsN (fun _ _ _ _ _ _ us hl => match us, hl with | [_, _, _], _ => rfl)⟩⟩
  obtain ⟨t, h, e⟩ := tm_two_fit T c_house_fits (f := He.ga K "two_fit") cdv A outer s H E hr
  exact ⟨t, h, fun x1 x2 x3 hp => by rw [e]; exact run_two_fit x1 x2 x3⟩
theorem ca_feared_in (T : Hd.Tx K mg) (c_lot_within : Cal P w K mg base 1 "lot_within" ["one", "other"] (sp_lot_within K)) : Cal P w K mg base 2 "feared_in" ["fears", "lot"] (sp_feared_in K) := by
  obtain ⟨fd, F⟩ := T.f_feared_in
  refine ⟨⟨_, fd, fn2 F sc_feared_in (by decide) (fun cdv A outer s H E hr => ?_), T.g_feared_in, F.kp, F.bindsN (fun _ _ _ _ _ _ us hl => match us, hl with | [_, _], _ => rfl)⟩⟩
  obtain ⟨t, h, e⟩ := tm_feared_in T c_lot_within (f := He.ga K "feared_in") cdv A outer s H E hr
  exact ⟨t, h, fun x1 x2 hp => by rw [e]; exact run_feared_in x1 x2⟩
theorem ca_net_fits (T : Hd.Tx K mg) (c_wire_fits : Cal P w K mg base 4 "wire_fits" ["many", "thing"] (sp_wire_fits K)) : Cal P w K mg base 5 "net_fits" ["many", "thing"] (sp_net_fits K) := by
  obtain ⟨fd, F⟩ := T.f_net_fits
  refine ⟨⟨_, fd, fn2 F sc_net_fits (by decide) (fun cdv A outer s H E hr => ?_), T.g_net_fits, F.kp, F.bindsN (fun _ _ _ _ _ _ us hl => match us, hl with | [_, _], _ => rfl)⟩⟩
  obtain ⟨t, h, e⟩ := tm_net_fits T c_wire_fits (f := He.ga K "net_fits") cdv A outer s H E hr
  exact ⟨t, h, fun x1 x2 hp => by rw [e]; exact run_net_fits x1 x2 hp.1 hp.2⟩
theorem ca_bare_wired (T : Hd.Tx K mg)  : Cal P w K mg base 1 "bare_wired" ["net", "house"] (sp_bare_wired K) := by
  obtain ⟨fd, F⟩ := T.f_bare_wired
  refine ⟨⟨_, fd, fn2 F sc_bare_wired (by decide) (fun cdv A outer s H E hr => ?_), T.g_bare_wired, F.kp, F.bindsN (fun _ _ _ _ _ _ us hl => match us, hl with | [_, _], _ => rfl)⟩⟩
  obtain ⟨t, h, e⟩ := tm_bare_wired T  (f := He.ga K "bare_wired") cdv A outer s H E hr
  exact ⟨t, h, fun x1 x2 hp => by rw [e]; exact run_bare_wired x1 x2⟩
theorem ca_a_want (T : Hd.Tx K mg)  : Cal P w K mg base 1 "a_want" ["good", "word"] (sp_a_want K) := by
  obtain ⟨fd, F⟩ := T.f_a_want
  refine ⟨⟨_, fd, fn2N F sc_a_want (by decide) (fun cdv A outer s H E hr => ?_), T.g_a_want, F.kp, F.bindsN (fun _ _ _ _ _ _ us hl => match us, hl with | [_, _], _ => rfl)⟩⟩
  obtain ⟨t, h, e⟩ := tm_a_want T  (f := He.ga K "a_want") cdv A outer s H E hr
  exact ⟨t, h, fun x1 x2 hp => by rw [e]; exact ⟨_, run_a_want x1 x2 hp⟩⟩
theorem ca_fears_fit (T : Hd.Tx K mg) (c_lot_within : Cal P w K mg base 1 "lot_within" ["one", "other"] (sp_lot_within K)) (c_is_lots : Cal P w K mg base 5 "is_lots" ["many", "thing"] (sp_is_lots K)) : Cal P w K mg base 6 "fears_fit" ["many", "thing"] (sp_fears_fit K) := by
  obtain ⟨fd, F⟩ := T.f_fears_fit
  refine ⟨⟨_, fd, fn2 F sc_fears_fit (by decide) (fun cdv A outer s H E hr => ?_), T.g_fears_fit, F.kp, F.bindsN (fun _ _ _ _ _ _ us hl => match us, hl with | [_, _], _ => rfl)⟩⟩
  obtain ⟨t, h, e⟩ := tm_fears_fit T c_lot_within c_is_lots (f := He.ga K "fears_fit") cdv A outer s H E hr
  exact ⟨t, h, fun x1 x2 hp => by rw [e]; exact run_fears_fit x1 x2 hp.1 hp.2⟩
theorem ca_lots_in (T : Hd.Tx K mg)  : Cal P w K mg base 1 "lots_in" ["many"] (sp_lots_in K) := by
  obtain ⟨fd, F⟩ := T.f_lots_in
  refine ⟨⟨_, fd, fn1 F sc_lots_in (by decide) (fun cdv A outer s H E hr => ?_), T.g_lots_in, F.kp, F.bindsN (fun _ _ _ _ _ _ us hl => match us, hl with | [_], _ => rfl)⟩⟩
  obtain ⟨t, h, e⟩ := tm_lots_in T  (f := He.ga K "lots_in") cdv A outer s H E hr
  exact ⟨t, h, fun x1 hp => by rw [e]; exact run_lots_in x1 hp⟩
theorem ca_greatest_in (T : Hd.Tx K mg) (c_lot_within : Cal P w K mg base 1 "lot_within" ["one", "other"] (sp_lot_within K)) : Cal P w K mg base 2 "greatest_in" ["lots"] (sp_greatest_in K) := by
  obtain ⟨fd, F⟩ := T.f_greatest_in
  refine ⟨⟨_, fd, fn1 F sc_greatest_in (by decide) (fun cdv A outer s H E hr => ?_), T.g_greatest_in, F.kp, F.bindsN (fun _ _ _ _ _ _ us hl => match us, hl with | [_], _ => rfl)⟩⟩
  obtain ⟨t, h, e⟩ := tm_greatest_in T c_lot_within (f := He.ga K "greatest_in") cdv A outer s H E hr
  exact ⟨t, h, fun x1 hp => by rw [e]; exact run_greatest_in x1 hp⟩
theorem ca_blind_in (T : Hd.Tx K mg) (c_greatest_in : Cal P w K mg base 2 "greatest_in" ["lots"] (sp_greatest_in K)) (c_lot_within : Cal P w K mg base 1 "lot_within" ["one", "other"] (sp_lot_within K)) : Cal P w K mg base 3 "blind_in" ["fears", "lot"] (sp_blind_in K) := by
  obtain ⟨fd, F⟩ := T.f_blind_in
  refine ⟨⟨_, fd, fn2 F sc_blind_in (by decide) (fun cdv A outer s H E hr => ?_), T.g_blind_in, F.kp, F.bindsN (fun _ _ _ _ _ _ us hl => match us, hl with | [_, _], _ => rfl)⟩⟩
  obtain ⟨t, h, e⟩ := tm_blind_in T c_greatest_in c_lot_within (f := He.ga K "blind_in") cdv A outer s H E hr
  exact ⟨t, h, fun x1 x2 hp => by rw [e]; exact run_blind_in x1 x2 hp⟩
end
end Dy
/-! ## Ca2 -/
namespace Dy
open PySem L2 PyProof.Rows Mi
section
variable {P : Program} {w : World} {K : Fg} {mg : Str → Option Value} {base : Heap}

theorem ca_bare_sides (T : Hd.Tx K mg) (c_others_in : Cal P w K mg base 1 "others_in" ["many", "lot"] (sp_others_in K)) : Cal P w K mg base 2 "bare_sides" ["many", "net", "lot"] (sp_bare_sides K) := by
  obtain ⟨fd, F⟩ := T.f_bare_sides
  refine ⟨⟨_, fd, fn3 F sc_bare_sides (by decide) (fun cdv A outer s H E hr => ?_), T.g_bare_sides, F.kp, F.bindsN (fun _ _ _ _ _ _ us hl => match us, hl with | [_, _, _], _ => rfl)⟩⟩
  obtain ⟨t, h, e⟩ := tm_bare_sides T c_others_in (f := He.ga K "bare_sides") cdv A outer s H E hr
  exact ⟨t, h, fun x1 x2 x3 hp => by rw [e]; exact run_bare_sides x1 x2 x3 hp⟩
theorem ca_bare_divides (T : Hd.Tx K mg) (c_bare_sides : Cal P w K mg base 2 "bare_sides" ["many", "net", "lot"] (sp_bare_sides K)) : Cal P w K mg base 3 "bare_divides" ["many", "net", "lot", "one", "other"] (sp_bare_divides K) := by
  obtain ⟨fd, F⟩ := T.f_bare_divides
  refine ⟨⟨_, fd, fn5 F sc_bare_divides (by decide) (fun cdv A outer s H E hr => ?_), T.g_bare_divides, F.kp, F.bindsN (fun _ _ _ _ _ _ us hl => match us, hl with | [_, _, _, _, _], _ => rfl)⟩⟩
  obtain ⟨t, h, e⟩ := tm_bare_divides T c_bare_sides (f := He.ga K "bare_divides") cdv A outer s H E hr
  exact ⟨t, h, fun x1 x2 x3 x4 x5 hp => by rw [e]; exact run_bare_divides x1 x2 x3 x4 x5 hp⟩
theorem ca_bare_way (T : Hd.Tx K mg) (c_bare_wired : Cal P w K mg base 1 "bare_wired" ["net", "house"] (sp_bare_wired K)) : Cal P w K mg base 2 "bare_way" ["net", "lot", "one", "other"] (sp_bare_way K) := by
  obtain ⟨fd, F⟩ := T.f_bare_way
  refine ⟨⟨_, fd, fn4 F sc_bare_way (by decide) (fun cdv A outer s H E hr => ?_), T.g_bare_way, F.kp, F.bindsN (fun _ _ _ _ _ _ us hl => match us, hl with | [_, _, _, _], _ => rfl)⟩⟩
  obtain ⟨t, h, e⟩ := tm_bare_way T c_bare_wired (f := He.ga K "bare_way") cdv A outer s H E hr
  exact ⟨t, h, fun x1 x2 x3 x4 hp => by rw [e]; exact run_bare_way x1 x2 x3 x4 hp⟩
theorem ca_bare_between (T : Hd.Tx K mg) (c_greatest_in : Cal P w K mg base 2 "greatest_in" ["lots"] (sp_greatest_in K)) : Cal P w K mg base 3 "bare_between" ["fears", "one", "other"] (sp_bare_between K) := by
  obtain ⟨fd, F⟩ := T.f_bare_between
  refine ⟨⟨_, fd, fn3 F sc_bare_between (by decide) (fun cdv A outer s H E hr => ?_), T.g_bare_between, F.kp, F.bindsN (fun _ _ _ _ _ _ us hl => match us, hl with | [_, _, _], _ => rfl)⟩⟩
  obtain ⟨t, h, e⟩ := tm_bare_between T c_greatest_in (f := He.ga K "bare_between") cdv A outer s H E hr
  exact ⟨t, h, fun x1 x2 x3 hp => by rw [e]; exact run_bare_between x1 x2 x3 hp⟩
theorem ca_between_lots (T : Hd.Tx K mg) (c_bare_between : Cal P w K mg base 3 "bare_between" ["fears", "one", "other"] (sp_bare_between K)) (c_two_fit : Cal P w K mg base 4 "two_fit" ["many", "one", "other"] (sp_two_fit K)) (c_a_want : Cal P w K mg base 1 "a_want" ["good", "word"] (sp_a_want K)) (c_house_fits : Cal P w K mg base 3 "house_fits" ["many", "thing"] (sp_house_fits K)) (c_fears_fit : Cal P w K mg base 6 "fears_fit" ["many", "thing"] (sp_fears_fit K)) (c_many_fits : Cal P w K mg base 2 "many_fits" ["thing"] (sp_many_fits K)) : Cal P w K mg base 7 "between_lots" ["many", "fears", "one", "other"] (sp_between_lots K) := by
  obtain ⟨fd, F⟩ := T.f_between_lots
  refine ⟨⟨_, fd, fn4 F sc_between_lots (by decide) (fun cdv A outer s H E hr => ?_), T.g_between_lots, F.kp, F.bindsN (fun _ _ _ _ _ _ us hl => match us, hl with | [_, _, _, _], _ => rfl)⟩⟩
  obtain ⟨t, h, e⟩ := tm_between_lots T c_bare_between c_two_fit c_a_want c_house_fits c_fears_fit c_many_fits (f := He.ga K "between_lots") cdv A outer s H E hr
  exact ⟨t, h, fun x1 x2 x3 x4 hp => by rw [e]; exact run_between_lots x1 x2 x3 x4 hp⟩
theorem ca_ground_fits (T : Hd.Tx K mg) (c_fears_fit : Cal P w K mg base 6 "fears_fit" ["many", "thing"] (sp_fears_fit K)) (c_sizes_fit : Cal P w K mg base 3 "sizes_fit" ["thing"] (sp_sizes_fit K)) : Cal P w K mg base 7 "ground_fits" ["thing"] (sp_ground_fits K) := by
  obtain ⟨fd, F⟩ := T.f_ground_fits
  refine ⟨⟨_, fd, fn1 F sc_ground_fits (by decide) (fun cdv A outer s H E hr => ?_), T.g_ground_fits, F.kp, F.bindsN (fun _ _ _ _ _ _ us hl => match us, hl with | [_], _ => rfl)⟩⟩
  obtain ⟨t, h, e⟩ := tm_ground_fits T c_fears_fit c_sizes_fit (f := He.ga K "ground_fits") cdv A outer s H E hr
  exact ⟨t, h, fun x1 hp => by rw [e]; exact run_ground_fits x1 hp.1 hp.2⟩
theorem ca_mesh_of (T : Hd.Tx K mg) (c_many_fits : Cal P w K mg base 2 "many_fits" ["thing"] (sp_many_fits K)) (c_a_want : Cal P w K mg base 1 "a_want" ["good", "word"] (sp_a_want K)) : Cal P w K mg base 3 "mesh_of" ["many"] (sp_mesh_of K) := by
  obtain ⟨fd, F⟩ := T.f_mesh_of
  refine ⟨⟨_, fd, fn1 F sc_mesh_of (by decide) (fun cdv A outer s H E hr => ?_), T.g_mesh_of, F.kp, F.bindsN (fun _ _ _ _ _ _ us hl => match us, hl with | [_], _ => rfl)⟩⟩
  obtain ⟨t, h, e⟩ := tm_mesh_of T c_many_fits c_a_want (f := He.ga K "mesh_of") cdv A outer s H E hr
  exact ⟨t, h, fun x1 hp => by rw [e]; exact run_mesh_of x1 hp⟩
theorem ca_wired_to (T : Hd.Tx K mg) (c_bare_wired : Cal P w K mg base 1 "bare_wired" ["net", "house"] (sp_bare_wired K)) (c_house_fits : Cal P w K mg base 3 "house_fits" ["many", "thing"] (sp_house_fits K)) (c_a_want : Cal P w K mg base 1 "a_want" ["good", "word"] (sp_a_want K)) (c_net_fits : Cal P w K mg base 5 "net_fits" ["many", "thing"] (sp_net_fits K)) (c_many_fits : Cal P w K mg base 2 "many_fits" ["thing"] (sp_many_fits K)) : Cal P w K mg base 6 "wired_to" ["many", "net", "house"] (sp_wired_to K) := by
  obtain ⟨fd, F⟩ := T.f_wired_to
  refine ⟨⟨_, fd, fn3 F sc_wired_to (by decide) (fun cdv A outer s H E hr => ?_), T.g_wired_to, F.kp, F.bindsN (fun _ _ _ _ _ _ us hl => match us, hl with | [_, _, _], _ => rfl)⟩⟩
  obtain ⟨t, h, e⟩ := tm_wired_to T c_bare_wired c_house_fits c_a_want c_net_fits c_many_fits (f := He.ga K "wired_to") cdv A outer s H E hr
  exact ⟨t, h, fun x1 x2 x3 hp => by rw [e]; exact run_wired_to x1 x2 x3 hp⟩
theorem ca_feared_lots (T : Hd.Tx K mg) (c_lots_in : Cal P w K mg base 1 "lots_in" ["many"] (sp_lots_in K)) (c_feared_in : Cal P w K mg base 2 "feared_in" ["fears", "lot"] (sp_feared_in K)) (c_fears_fit : Cal P w K mg base 6 "fears_fit" ["many", "thing"] (sp_fears_fit K)) (c_a_want : Cal P w K mg base 1 "a_want" ["good", "word"] (sp_a_want K)) (c_many_fits : Cal P w K mg base 2 "many_fits" ["thing"] (sp_many_fits K)) : Cal P w K mg base 7 "feared_lots" ["many", "fears"] (sp_feared_lots K) := by
  obtain ⟨fd, F⟩ := T.f_feared_lots
  refine ⟨⟨_, fd, fn2 F sc_feared_lots (by decide) (fun cdv A outer s H E hr => ?_), T.g_feared_lots, F.kp, F.bindsN (fun _ _ _ _ _ _ us hl => match us, hl with | [_, _], _ => rfl)⟩⟩
  obtain ⟨t, h, e⟩ := tm_feared_lots T c_lots_in c_feared_in c_fears_fit c_a_want c_many_fits (f := He.ga K "feared_lots") cdv A outer s H E hr
  exact ⟨t, h, fun x1 x2 hp => by rw [e]; exact run_feared_lots x1 x2 hp⟩
theorem ca_sides_of (T : Hd.Tx K mg) (c_bare_sides : Cal P w K mg base 2 "bare_sides" ["many", "net", "lot"] (sp_bare_sides K)) (c_lot_fits : Cal P w K mg base 4 "lot_fits" ["many", "thing"] (sp_lot_fits K)) (c_a_want : Cal P w K mg base 1 "a_want" ["good", "word"] (sp_a_want K)) (c_net_fits : Cal P w K mg base 5 "net_fits" ["many", "thing"] (sp_net_fits K)) (c_many_fits : Cal P w K mg base 2 "many_fits" ["thing"] (sp_many_fits K)) : Cal P w K mg base 6 "sides_of" ["many", "net", "lot"] (sp_sides_of K) := by
  obtain ⟨fd, F⟩ := T.f_sides_of
  refine ⟨⟨_, fd, fn3 F sc_sides_of (by decide) (fun cdv A outer s H E hr => ?_), T.g_sides_of, F.kp, F.bindsN (fun _ _ _ _ _ _ us hl => match us, hl with | [_, _, _], _ => rfl)⟩⟩
  obtain ⟨t, h, e⟩ := tm_sides_of T c_bare_sides c_lot_fits c_a_want c_net_fits c_many_fits (f := He.ga K "sides_of") cdv A outer s H E hr
  exact ⟨t, h, fun x1 x2 x3 hp => by rw [e]; exact run_sides_of x1 x2 x3 hp⟩
theorem ca_divides (T : Hd.Tx K mg) (c_bare_divides : Cal P w K mg base 3 "bare_divides" ["many", "net", "lot", "one", "other"] (sp_bare_divides K)) (c_two_fit : Cal P w K mg base 4 "two_fit" ["many", "one", "other"] (sp_two_fit K)) (c_a_want : Cal P w K mg base 1 "a_want" ["good", "word"] (sp_a_want K)) (c_house_fits : Cal P w K mg base 3 "house_fits" ["many", "thing"] (sp_house_fits K)) (c_lot_fits : Cal P w K mg base 4 "lot_fits" ["many", "thing"] (sp_lot_fits K)) (c_net_fits : Cal P w K mg base 5 "net_fits" ["many", "thing"] (sp_net_fits K)) (c_many_fits : Cal P w K mg base 2 "many_fits" ["thing"] (sp_many_fits K)) : Cal P w K mg base 6 "divides" ["many", "net", "lot", "one", "other"] (sp_divides K) := by
  obtain ⟨fd, F⟩ := T.f_divides
  refine ⟨⟨_, fd, fn5 F sc_divides (by decide) (fun cdv A outer s H E hr => ?_), T.g_divides, F.kp, F.bindsN (fun _ _ _ _ _ _ us hl => match us, hl with | [_, _, _, _, _], _ => rfl)⟩⟩
  obtain ⟨t, h, e⟩ := tm_divides T c_bare_divides c_two_fit c_a_want c_house_fits c_lot_fits c_net_fits c_many_fits (f := He.ga K "divides") cdv A outer s H E hr
  exact ⟨t, h, fun x1 x2 x3 x4 x5 hp => by rw [e]; exact run_divides x1 x2 x3 x4 x5 hp⟩
theorem ca_dividing_lots (T : Hd.Tx K mg) (c_feared_lots : Cal P w K mg base 7 "feared_lots" ["many", "fears"] (sp_feared_lots K)) (c_bare_sides : Cal P w K mg base 2 "bare_sides" ["many", "net", "lot"] (sp_bare_sides K)) (c_fears_fit : Cal P w K mg base 6 "fears_fit" ["many", "thing"] (sp_fears_fit K)) (c_a_want : Cal P w K mg base 1 "a_want" ["good", "word"] (sp_a_want K)) (c_net_fits : Cal P w K mg base 5 "net_fits" ["many", "thing"] (sp_net_fits K)) (c_many_fits : Cal P w K mg base 2 "many_fits" ["thing"] (sp_many_fits K)) : Cal P w K mg base 8 "dividing_lots" ["many", "net", "fears"] (sp_dividing_lots K) := by
  obtain ⟨fd, F⟩ := T.f_dividing_lots
  refine ⟨⟨_, fd, fn3 F sc_dividing_lots (by decide) (fun cdv A outer s H E hr => ?_), T.g_dividing_lots, F.kp, F.bindsN (fun _ _ _ _ _ _ us hl => match us, hl with | [_, _, _], _ => rfl)⟩⟩
  obtain ⟨t, h, e⟩ := tm_dividing_lots T c_feared_lots c_bare_sides c_fears_fit c_a_want c_net_fits c_many_fits (f := He.ga K "dividing_lots") cdv A outer s H E hr
  exact ⟨t, h, fun x1 x2 x3 hp => by rw [e]; exact run_dividing_lots x1 x2 x3 hp⟩
theorem ca_is_sturdy (T : Hd.Tx K mg) (c_dividing_lots : Cal P w K mg base 8 "dividing_lots" ["many", "net", "fears"] (sp_dividing_lots K)) : Cal P w K mg base 9 "is_sturdy" ["many", "net", "fears"] (sp_is_sturdy K) := by
  obtain ⟨fd, F⟩ := T.f_is_sturdy
  refine ⟨⟨_, fd, fn3 F sc_is_sturdy (by decide) (fun cdv A outer s H E hr => ?_), T.g_is_sturdy, F.kp, F.bindsN (fun _ _ _ _ _ _ us hl => match us, hl with | [_, _, _], _ => rfl)⟩⟩
  obtain ⟨t, h, e⟩ := tm_is_sturdy T c_dividing_lots (f := He.ga K "is_sturdy") cdv A outer s H E hr
  exact ⟨t, h, fun x1 x2 x3 hp => by rw [e]; exact run_is_sturdy x1 x2 x3 hp⟩
theorem ca_needed_wires (T : Hd.Tx K mg) (c_bare_sides : Cal P w K mg base 2 "bare_sides" ["many", "net", "lot"] (sp_bare_sides K)) (c_feared_lots : Cal P w K mg base 7 "feared_lots" ["many", "fears"] (sp_feared_lots K)) (c_is_sturdy : Cal P w K mg base 9 "is_sturdy" ["many", "net", "fears"] (sp_is_sturdy K)) (c_a_want : Cal P w K mg base 1 "a_want" ["good", "word"] (sp_a_want K)) : Cal P w K mg base 10 "needed_wires" ["many", "net", "fears"] (sp_needed_wires K) := by
  obtain ⟨fd, F⟩ := T.f_needed_wires
  refine ⟨⟨_, fd, fn3 F sc_needed_wires (by decide) (fun cdv A outer s H E hr => ?_), T.g_needed_wires, F.kp, F.bindsN (fun _ _ _ _ _ _ us hl => match us, hl with | [_, _, _], _ => rfl)⟩⟩
  obtain ⟨t, h, e⟩ := tm_needed_wires T c_bare_sides c_feared_lots c_is_sturdy c_a_want (f := He.ga K "needed_wires") cdv A outer s H E hr
  exact ⟨t, h, fun x1 x2 x3 hp => by rw [e]; exact run_needed_wires x1 x2 x3 hp⟩
theorem ca_way_past (T : Hd.Tx K mg) (c_bare_way : Cal P w K mg base 2 "bare_way" ["net", "lot", "one", "other"] (sp_bare_way K)) (c_two_fit : Cal P w K mg base 4 "two_fit" ["many", "one", "other"] (sp_two_fit K)) (c_a_want : Cal P w K mg base 1 "a_want" ["good", "word"] (sp_a_want K)) (c_house_fits : Cal P w K mg base 3 "house_fits" ["many", "thing"] (sp_house_fits K)) (c_lot_fits : Cal P w K mg base 4 "lot_fits" ["many", "thing"] (sp_lot_fits K)) (c_net_fits : Cal P w K mg base 5 "net_fits" ["many", "thing"] (sp_net_fits K)) (c_many_fits : Cal P w K mg base 2 "many_fits" ["thing"] (sp_many_fits K)) : Cal P w K mg base 6 "way_past" ["many", "net", "lot", "one", "other"] (sp_way_past K) := by
  obtain ⟨fd, F⟩ := T.f_way_past
  refine ⟨⟨_, fd, fn5 F sc_way_past (by decide) (fun cdv A outer s H E hr => ?_), T.g_way_past, F.kp, F.bindsN (fun _ _ _ _ _ _ us hl => match us, hl with | [_, _, _, _, _], _ => rfl)⟩⟩
  obtain ⟨t, h, e⟩ := tm_way_past T c_bare_way c_two_fit c_a_want c_house_fits c_lot_fits c_net_fits c_many_fits (f := He.ga K "way_past") cdv A outer s H E hr
  exact ⟨t, h, fun x1 x2 x3 x4 x5 hp => by rw [e]; exact run_way_past x1 x2 x3 x4 x5 hp⟩
theorem ca_pairs_fit (T : Hd.Tx K mg) (c_house_fits : Cal P w K mg base 3 "house_fits" ["many", "thing"] (sp_house_fits K)) : Cal P w K mg base 4 "pairs_fit" ["many", "things"] (sp_pairs_fit K) := by
  obtain ⟨fd, F⟩ := T.f_pairs_fit
  refine ⟨⟨_, fd, fn2 F sc_pairs_fit (by decide) (fun cdv A outer s H E hr => ?_), T.g_pairs_fit, F.kp, F.bindsN (fun _ _ _ _ _ _ us hl => match us, hl with | [_, _], _ => rfl)⟩⟩
  obtain ⟨t, h, e⟩ := tm_pairs_fit T c_house_fits (f := He.ga K "pairs_fit") cdv A outer s H E hr
  exact ⟨t, h, fun x1 x2 hp => by rw [e]; exact run_pairs_fit x1 x2 hp⟩
theorem ca_net_by (T : Hd.Tx K mg) (c_wire_between : Cal P w K mg base 1 "wire_between" ["one", "other"] (sp_wire_between K)) : Cal P w K mg base 2 "net_by" ["pairs"] (sp_net_by K) := by
  obtain ⟨fd, F⟩ := T.f_net_by
  refine ⟨⟨_, fd, fn1 F sc_net_by (by decide) (fun cdv A outer s H E hr => ?_), T.g_net_by, F.kp, F.bindsN (fun _ _ _ _ _ _ us hl => match us, hl with | [_], _ => rfl)⟩⟩
  obtain ⟨t, h, e⟩ := tm_net_by T c_wire_between (f := He.ga K "net_by") cdv A outer s H E hr
  exact ⟨t, h, fun x1 hp => by rw [e]; exact run_net_by x1 hp⟩
theorem ca_left_in (T : Hd.Tx K mg) (c_greatest_in : Cal P w K mg base 2 "greatest_in" ["lots"] (sp_greatest_in K)) : Cal P w K mg base 3 "left_in" ["ground", "house"] (sp_left_in K) := by
  obtain ⟨fd, F⟩ := T.f_left_in
  refine ⟨⟨_, fd, fn2 F sc_left_in (by decide) (fun cdv A outer s H E hr => ?_), T.g_left_in, F.kp, F.bindsN (fun _ _ _ _ _ _ us hl => match us, hl with | [_, _], _ => rfl)⟩⟩
  obtain ⟨t, h, e⟩ := tm_left_in T c_greatest_in (f := He.ga K "left_in") cdv A outer s H E hr
  exact ⟨t, h, fun x1 x2 hp => by rw [e]; exact run_left_in x1 x2 hp⟩
theorem ca_left_out (T : Hd.Tx K mg) (c_left_in : Cal P w K mg base 3 "left_in" ["ground", "house"] (sp_left_in K)) (c_house_fits : Cal P w K mg base 3 "house_fits" ["many", "thing"] (sp_house_fits K)) (c_a_want : Cal P w K mg base 1 "a_want" ["good", "word"] (sp_a_want K)) (c_ground_fits : Cal P w K mg base 7 "ground_fits" ["thing"] (sp_ground_fits K)) : Cal P w K mg base 8 "left_out" ["ground", "house"] (sp_left_out K) := by
  obtain ⟨fd, F⟩ := T.f_left_out
  refine ⟨⟨_, fd, fn2 F sc_left_out (by decide) (fun cdv A outer s H E hr => ?_), T.g_left_out, F.kp, F.bindsN (fun _ _ _ _ _ _ us hl => match us, hl with | [_, _], _ => rfl)⟩⟩
  obtain ⟨t, h, e⟩ := tm_left_out T c_left_in c_house_fits c_a_want c_ground_fits (f := He.ga K "left_out") cdv A outer s H E hr
  exact ⟨t, h, fun x1 x2 hp => by rw [e]; exact run_left_out x1 x2 hp⟩
theorem ca_feared_too (T : Hd.Tx K mg) (c_greatest_in : Cal P w K mg base 2 "greatest_in" ["lots"] (sp_greatest_in K)) (c_lot_fits : Cal P w K mg base 4 "lot_fits" ["many", "thing"] (sp_lot_fits K)) (c_a_want : Cal P w K mg base 1 "a_want" ["good", "word"] (sp_a_want K)) (c_ground_fits : Cal P w K mg base 7 "ground_fits" ["thing"] (sp_ground_fits K)) : Cal P w K mg base 8 "feared_too" ["ground", "lot"] (sp_feared_too K) := by
  obtain ⟨fd, F⟩ := T.f_feared_too
  refine ⟨⟨_, fd, fn2 F sc_feared_too (by decide) (fun cdv A outer s H E hr => ?_), T.g_feared_too, F.kp, F.bindsN (fun _ _ _ _ _ _ us hl => match us, hl with | [_, _], _ => rfl)⟩⟩
  obtain ⟨t, h, e⟩ := tm_feared_too T c_greatest_in c_lot_fits c_a_want c_ground_fits (f := He.ga K "feared_too") cdv A outer s H E hr
  exact ⟨t, h, fun x1 x2 hp => by rw [e]; exact run_feared_too x1 x2 hp⟩
theorem ca_calmed (T : Hd.Tx K mg) (c_blind_in : Cal P w K mg base 3 "blind_in" ["fears", "lot"] (sp_blind_in K)) (c_lot_fits : Cal P w K mg base 4 "lot_fits" ["many", "thing"] (sp_lot_fits K)) (c_a_want : Cal P w K mg base 1 "a_want" ["good", "word"] (sp_a_want K)) (c_ground_fits : Cal P w K mg base 7 "ground_fits" ["thing"] (sp_ground_fits K)) : Cal P w K mg base 8 "calmed" ["ground", "lot"] (sp_calmed K) := by
  obtain ⟨fd, F⟩ := T.f_calmed
  refine ⟨⟨_, fd, fn2 F sc_calmed (by decide) (fun cdv A outer s H E hr => ?_), T.g_calmed, F.kp, F.bindsN (fun _ _ _ _ _ _ us hl => match us, hl with | [_, _], _ => rfl)⟩⟩
  obtain ⟨t, h, e⟩ := tm_calmed T c_blind_in c_lot_fits c_a_want c_ground_fits (f := He.ga K "calmed") cdv A outer s H E hr
  exact ⟨t, h, fun x1 x2 hp => by rw [e]; exact run_calmed x1 x2 hp⟩
theorem ca__law_within (T : Hd.Tx K mg)  : Cal P w K mg base 1 "_law_within" ["_law_lot", "_law_wide"] (sp__law_within K) := by
  obtain ⟨fd, F⟩ := T.f__law_within
  refine ⟨⟨_, fd, fn2 F sc__law_within (by decide) (fun cdv A outer s H E hr => ?_), T.g__law_within, F.kp, F.bindsN (fun _ _ _ _ _ _ us hl => match us, hl with | [_, _], _ => rfl)⟩⟩
  obtain ⟨t, h, e⟩ := tm__law_within T  (f := He.ga K "_law_within") cdv A outer s H E hr
  exact ⟨t, h, fun x1 x2 hp => by rw [e]; exact run__law_within x1 x2⟩
theorem ca__law_others (T : Hd.Tx K mg)  : Cal P w K mg base 1 "_law_others" ["_law_many", "_law_lot"] (sp__law_others K) := by
  obtain ⟨fd, F⟩ := T.f__law_others
  refine ⟨⟨_, fd, fn2 F sc__law_others (by decide) (fun cdv A outer s H E hr => ?_), T.g__law_others, F.kp, F.bindsN (fun _ _ _ _ _ _ us hl => match us, hl with | [_, _], _ => rfl)⟩⟩
  obtain ⟨t, h, e⟩ := tm__law_others T  (f := He.ga K "_law_others") cdv A outer s H E hr
  exact ⟨t, h, fun x1 x2 hp => by rw [e]; exact run__law_others x1 x2 hp⟩
theorem ca__law_lots (T : Hd.Tx K mg)  : Cal P w K mg base 1 "_law_lots" ["_law_many"] (sp__law_lots K) := by
  obtain ⟨fd, F⟩ := T.f__law_lots
  refine ⟨⟨_, fd, fn1 F sc__law_lots (by decide) (fun cdv A outer s H E hr => ?_), T.g__law_lots, F.kp, F.bindsN (fun _ _ _ _ _ _ us hl => match us, hl with | [_], _ => rfl)⟩⟩
  obtain ⟨t, h, e⟩ := tm__law_lots T  (f := He.ga K "_law_lots") cdv A outer s H E hr
  exact ⟨t, h, fun x1 hp => by rw [e]; exact run__law_lots x1 hp⟩
theorem ca__law_greatest (T : Hd.Tx K mg) (c__law_within : Cal P w K mg base 1 "_law_within" ["_law_lot", "_law_wide"] (sp__law_within K)) : Cal P w K mg base 2 "_law_greatest" ["_law_lots_here"] (sp__law_greatest K) := by
  obtain ⟨fd, F⟩ := T.f__law_greatest
  refine ⟨⟨_, fd, fn1 F sc__law_greatest (by decide) (fun cdv A outer s H E hr => ?_), T.g__law_greatest, F.kp, F.bindsN (fun _ _ _ _ _ _ us hl => match us, hl with | [_], _ => rfl)⟩⟩
  obtain ⟨t, h, e⟩ := tm__law_greatest T c__law_within (f := He.ga K "_law_greatest") cdv A outer s H E hr
  exact ⟨t, h, fun x1 hp => by rw [e]; exact run__law_greatest x1 hp⟩
theorem ca__law_feared (T : Hd.Tx K mg) (c__law_lots : Cal P w K mg base 1 "_law_lots" ["_law_many"] (sp__law_lots K)) (c__law_within : Cal P w K mg base 1 "_law_within" ["_law_lot", "_law_wide"] (sp__law_within K)) : Cal P w K mg base 2 "_law_feared" ["_law_many", "_law_fears_here"] (sp__law_feared K) := by
  obtain ⟨fd, F⟩ := T.f__law_feared
  refine ⟨⟨_, fd, fn2 F sc__law_feared (by decide) (fun cdv A outer s H E hr => ?_), T.g__law_feared, F.kp, F.bindsN (fun _ _ _ _ _ _ us hl => match us, hl with | [_, _], _ => rfl)⟩⟩
  obtain ⟨t, h, e⟩ := tm__law_feared T c__law_lots c__law_within (f := He.ga K "_law_feared") cdv A outer s H E hr
  exact ⟨t, h, fun x1 x2 hp => by rw [e]; exact run__law_feared x1 x2 hp⟩
theorem ca__law_mesh (T : Hd.Tx K mg) (c__law_lots : Cal P w K mg base 1 "_law_lots" ["_law_many"] (sp__law_lots K)) : Cal P w K mg base 2 "_law_mesh" ["_law_many"] (sp__law_mesh K) := by
  obtain ⟨fd, F⟩ := T.f__law_mesh
  refine ⟨⟨_, fd, fn1 F sc__law_mesh (by decide) (fun cdv A outer s H E hr => ?_), T.g__law_mesh, F.kp, F.bindsN (fun _ _ _ _ _ _ us hl => match us, hl with | [_], _ => rfl)⟩⟩
  obtain ⟨t, h, e⟩ := tm__law_mesh T c__law_lots (f := He.ga K "_law_mesh") cdv A outer s H E hr
  exact ⟨t, h, fun x1 hp => by rw [e]; exact run__law_mesh x1 hp⟩
theorem ca__law_joined (T : Hd.Tx K mg)  : Cal P w K mg base 1 "_law_joined" ["_law_wires", "_law_lot", "_law_house"] (sp__law_joined K) := by
  obtain ⟨fd, F⟩ := T.f__law_joined
  refine ⟨⟨_, fd, fn3 F sc__law_joined (by decide) (fun cdv A outer s H E hr => ?_), T.g__law_joined, F.kp, F.bindsN (fun _ _ _ _ _ _ us hl => match us, hl with | [_, _, _], _ => rfl)⟩⟩
  obtain ⟨t, h, e⟩ := tm__law_joined T  (f := He.ga K "_law_joined") cdv A outer s H E hr
  exact ⟨t, h, fun x1 x2 x3 hp => by rw [e]; exact run__law_joined x1 x2 x3 hp⟩
theorem ca__law_divided (T : Hd.Tx K mg) (c__law_joined : Cal P w K mg base 1 "_law_joined" ["_law_wires", "_law_lot", "_law_house"] (sp__law_joined K)) (c__law_others : Cal P w K mg base 1 "_law_others" ["_law_many", "_law_lot"] (sp__law_others K)) : Cal P w K mg base 2 "_law_divided" ["_law_many", "_law_wires", "_law_feared_here"] (sp__law_divided K) := by
  obtain ⟨fd, F⟩ := T.f__law_divided
  refine ⟨⟨_, fd, fn3 F sc__law_divided (by decide) (fun cdv A outer s H E hr => ?_), T.g__law_divided, F.kp, F.bindsN (fun _ _ _ _ _ _ us hl => match us, hl with | [_, _, _], _ => rfl)⟩⟩
  obtain ⟨t, h, e⟩ := tm__law_divided T c__law_joined c__law_others (f := He.ga K "_law_divided") cdv A outer s H E hr
  exact ⟨t, h, fun x1 x2 x3 hp => by rw [e]; exact run__law_divided x1 x2 x3 hp.1 hp.2⟩
theorem ca__law_long (T : Hd.Tx K mg)  : Cal P w K mg base 1 "_law_long" ["_law_wires", "_law_lot", "_law_one", "_law_other"] (sp__law_long K) := by
  obtain ⟨fd, F⟩ := T.f__law_long
  refine ⟨⟨_, fd, fn4 F sc__law_long (by decide) (fun cdv A outer s H E hr => ?_), T.g__law_long, F.kp, F.bindsN (fun _ _ _ _ _ _ us hl => match us, hl with | [_, _, _, _], _ => rfl)⟩⟩
  obtain ⟨t, h, e⟩ := tm__law_long T  (f := He.ga K "_law_long") cdv A outer s H E hr
  exact ⟨t, h, fun x1 x2 x3 x4 hp => by rw [e]; exact run__law_long x1 x2 x3 x4 hp⟩
theorem ca__law_between (T : Hd.Tx K mg) (c__law_greatest : Cal P w K mg base 2 "_law_greatest" ["_law_lots_here"] (sp__law_greatest K)) : Cal P w K mg base 3 "_law_between" ["_law_feared_here", "_law_one", "_law_other"] (sp__law_between K) := by
  obtain ⟨fd, F⟩ := T.f__law_between
  refine ⟨⟨_, fd, fn3 F sc__law_between (by decide) (fun cdv A outer s H E hr => ?_), T.g__law_between, F.kp, F.bindsN (fun _ _ _ _ _ _ us hl => match us, hl with | [_, _, _], _ => rfl)⟩⟩
  obtain ⟨t, h, e⟩ := tm__law_between T c__law_greatest (f := He.ga K "_law_between") cdv A outer s H E hr
  exact ⟨t, h, fun x1 x2 x3 hp => by rw [e]; exact run__law_between x1 x2 x3 hp⟩
theorem ca__law_is_house (T : Hd.Tx K mg)  : Cal P w K mg base 1 "_law_is_house" ["_law_thing", "_law_many"] (sp__law_is_house K) := by
  obtain ⟨fd, F⟩ := T.f__law_is_house
  refine ⟨⟨_, fd, fn2 F sc__law_is_house (by decide) (fun cdv A outer s H E hr => ?_), T.g__law_is_house, F.kp, F.bindsN (fun _ _ _ _ _ _ us hl => match us, hl with | [_, _], _ => rfl)⟩⟩
  obtain ⟨t, h, e⟩ := tm__law_is_house T  (f := He.ga K "_law_is_house") cdv A outer s H E hr
  exact ⟨t, h, fun x1 x2 hp => by rw [e]; exact run__law_is_house x1 x2⟩
theorem ca__law_anew (T : Hd.Tx K mg)  : Cal P w K mg base 1 "_law_anew" ["_law_lots_here", "_law_one", "_law_other"] (sp__law_anew K) := by
  obtain ⟨fd, F⟩ := T.f__law_anew
  refine ⟨⟨_, fd, fn3 F sc__law_anew (by decide) (fun cdv A outer s H E hr => ?_), T.g__law_anew, F.kp, F.bindsN (fun _ _ _ _ _ _ us hl => match us, hl with | [_, _, _], _ => rfl)⟩⟩
  obtain ⟨t, h, e⟩ := tm__law_anew T  (f := He.ga K "_law_anew") cdv A outer s H E hr
  exact ⟨t, h, fun x1 x2 x3 hp => by rw [e]; exact run__law_anew x1 x2 x3⟩
end
end Dy
/-! ## Ca3 -/
namespace Dy
open PySem L2 PyProof.Rows Mi
section
variable {P : Program} {w : World} {K : Fg} {mg : Str → Option Value} {base : Heap}

theorem ca__law_way_fits (T : Hd.Tx K mg) (c__law_is_house : Cal P w K mg base 1 "_law_is_house" ["_law_thing", "_law_many"] (sp__law_is_house K)) (c__law_long : Cal P w K mg base 1 "_law_long" ["_law_wires", "_law_lot", "_law_one", "_law_other"] (sp__law_long K)) : Cal P w K mg base 2 "_law_way_fits" ["_law_wires", "_law_lot", "_law_one", "_law_other", "_law_way", "_law_least"] (sp__law_way_fits K) := by
  obtain ⟨fd, F⟩ := T.f__law_way_fits
  refine ⟨⟨_, fd, fn6 F sc__law_way_fits (by decide) (fun cdv A outer s H E hr => ?_), T.g__law_way_fits, F.kp, F.bindsN (fun _ _ _ _ _ _ us hl => match us, hl with | [_, _, _, _, _, _], _ => rfl)⟩⟩
  obtain ⟨t, h, e⟩ := tm__law_way_fits T c__law_is_house c__law_long (f := He.ga K "_law_way_fits") cdv A outer s H E hr
  exact ⟨t, h, fun x1 x2 x3 x4 x5 x6 hp => by rw [e]; exact run__law_way_fits x1 x2 x3 x4 x5 x6 hp⟩
theorem ca__law_pair (T : Hd.Tx K mg) (c_can_send : Cal P w K mg base 9 "can_send" ["many", "net", "fears", "one", "other"] (sp_can_send K)) (c__law_joined : Cal P w K mg base 1 "_law_joined" ["_law_wires", "_law_lot", "_law_house"] (sp__law_joined K)) (c_between_lots : Cal P w K mg base 7 "between_lots" ["many", "fears", "one", "other"] (sp_between_lots K)) (c__law_between : Cal P w K mg base 3 "_law_between" ["_law_feared_here", "_law_one", "_law_other"] (sp__law_between K)) : CalG P w K mg base 10 "_law_pair" ["_law_many", "_law_wires", "_law_fears_here", "_law_feared_here", "_law_one", "_law_other"] (sp__law_pair K) := by
  obtain ⟨fd, F⟩ := T.f__law_pair
  refine ⟨⟨_, fd, fnG6 F sc__law_pair (by decide) (fun cdv A outer s H E hG hr => ?_), T.g__law_pair, F.kp, F.bindsN (fun _ _ _ _ _ _ us hl => match us, hl with | [_, _, _, _, _, _], _ => rfl)⟩⟩
  obtain ⟨t, h, e⟩ := tm__law_pair T c_can_send c__law_joined c_between_lots c__law_between (f := He.ga K "_law_pair") cdv A outer s H E hG hr
  exact ⟨t, h, fun x1 x2 x3 x4 x5 x6 hp => by rw [e]; exact run__law_pair x1 x2 x3 x4 x5 x6 hp⟩
theorem ca__law_drawn_pair (T : Hd.Tx K mg) (c_can_send : Cal P w K mg base 9 "can_send" ["many", "net", "fears", "one", "other"] (sp_can_send K)) (c_sides_of : Cal P w K mg base 6 "sides_of" ["many", "net", "lot"] (sp_sides_of K)) (c__law_left : Cal P w K mg base 9 "_law_left" ["_law_many", "_law_fears_here", "_law_one", "_law_other"] (sp__law_left K)) (c__law_anew : Cal P w K mg base 1 "_law_anew" ["_law_lots_here", "_law_one", "_law_other"] (sp__law_anew K)) (c__law_between : Cal P w K mg base 3 "_law_between" ["_law_feared_here", "_law_one", "_law_other"] (sp__law_between K)) : CalG P w K mg base 10 "_law_drawn_pair" ["_law_many", "_law_wires", "_law_fears_here", "_law_feared_here", "_law_one", "_law_other"] (sp__law_drawn_pair K) := by
  obtain ⟨fd, F⟩ := T.f__law_drawn_pair
  refine ⟨⟨_, fd, fnG6 F sc__law_drawn_pair (by decide) (fun cdv A outer s H E hG hr => ?_), T.g__law_drawn_pair, F.kp, F.bindsN (fun _ _ _ _ _ _ us hl => match us, hl with | [_, _, _, _, _, _], _ => rfl)⟩⟩
  obtain ⟨t, h, e⟩ := tm__law_drawn_pair T c_can_send c_sides_of c__law_left c__law_anew c__law_between (f := He.ga K "_law_drawn_pair") cdv A outer s H E hG hr
  exact ⟨t, h, fun x1 x2 x3 x4 x5 x6 hp => by rw [e]; exact run__law_drawn_pair x1 x2 x3 x4 x5 x6 hp⟩
theorem ca__law_grounds (T : Hd.Tx K mg) (c_is_sturdy : Cal P w K mg base 9 "is_sturdy" ["many", "net", "fears"] (sp_is_sturdy K)) (c_dividing_lots : Cal P w K mg base 8 "dividing_lots" ["many", "net", "fears"] (sp_dividing_lots K)) (c__law_within : Cal P w K mg base 1 "_law_within" ["_law_lot", "_law_wide"] (sp__law_within K)) (c_calmed : Cal P w K mg base 8 "calmed" ["ground", "lot"] (sp_calmed K)) (c__law_divided : Cal P w K mg base 2 "_law_divided" ["_law_many", "_law_wires", "_law_feared_here"] (sp__law_divided K)) (c__law_lots : Cal P w K mg base 1 "_law_lots" ["_law_many"] (sp__law_lots K)) (c_feared_too : Cal P w K mg base 8 "feared_too" ["ground", "lot"] (sp_feared_too K)) : CalG P w K mg base 10 "_law_grounds" ["_law_many", "_law_wires", "_law_fears_here", "_law_lots_here", "_law_lot"] (sp__law_grounds K) := by
  obtain ⟨fd, F⟩ := T.f__law_grounds
  refine ⟨⟨_, fd, fnG5 F sc__law_grounds (by decide) (fun cdv A outer s H E hG hr => ?_), T.g__law_grounds, F.kp, F.bindsN (fun _ _ _ _ _ _ us hl => match us, hl with | [_, _, _, _, _], _ => rfl)⟩⟩
  obtain ⟨t, h, e⟩ := tm__law_grounds T c_is_sturdy c_dividing_lots c__law_within c_calmed c__law_divided c__law_lots c_feared_too (f := He.ga K "_law_grounds") cdv A outer s H E hG hr
  exact ⟨t, h, fun x1 x2 x3 x4 x5 hp => by rw [e]; exact run__law_grounds x1 x2 x3 x4 x5 hp⟩
end
end Dy
/-! ## Ca4 -/
namespace Dy
open PySem L2 PyProof.Rows Mi
section
variable {P : Program} {w : World} {K : Fg} {mg : Str → Option Value} {base : Heap}

theorem ca_is_way (T : Hd.Tx K mg) (c_wire_between : Cal P w K mg base 1 "wire_between" ["one", "other"] (sp_wire_between K)) (c_house_fits : Cal P w K mg base 3 "house_fits" ["many", "thing"] (sp_house_fits K)) (c_net_fits : Cal P w K mg base 5 "net_fits" ["many", "thing"] (sp_net_fits K)) (c_a_want : Cal P w K mg base 1 "a_want" ["good", "word"] (sp_a_want K)) (c_many_fits : Cal P w K mg base 2 "many_fits" ["thing"] (sp_many_fits K)) : Cal P w K mg base 6 "is_way" ["many", "net", "thing"] (sp_is_way K) := by
  obtain ⟨fd, F⟩ := T.f_is_way
  refine ⟨⟨_, fd, fn3 F sc_is_way (by decide) (fun cdv A outer s H E hr => ?_), T.g_is_way, F.kp, F.bindsN (fun _ _ _ _ _ _ us hl => match us, hl with | [_, _, _], _ => rfl)⟩⟩
  obtain ⟨t, h, e⟩ := tm_is_way T c_wire_between c_house_fits c_net_fits c_a_want c_many_fits (f := He.ga K "is_way") cdv A outer s H E hr
  exact ⟨t, h, fun x1 x2 x3 hp => by rw [e]; exact run_is_way x1 x2 x3 hp (way_len hp)⟩
theorem ca_secret_paper (T : Hd.Tx K mg) (c_bare_sides : Cal P w K mg base 2 "bare_sides" ["many", "net", "lot"] (sp_bare_sides K)) (c_bare_way : Cal P w K mg base 2 "bare_way" ["net", "lot", "one", "other"] (sp_bare_way K)) (c_between_lots : Cal P w K mg base 7 "between_lots" ["many", "fears", "one", "other"] (sp_between_lots K)) (c_net_fits : Cal P w K mg base 5 "net_fits" ["many", "thing"] (sp_net_fits K)) (c_a_want : Cal P w K mg base 1 "a_want" ["good", "word"] (sp_a_want K)) (c_many_fits : Cal P w K mg base 2 "many_fits" ["thing"] (sp_many_fits K)) : Cal P w K mg base 8 "secret_paper" ["many", "net", "fears", "one", "other"] (sp_secret_paper K) := by
  obtain ⟨fd, F⟩ := T.f_secret_paper
  refine ⟨⟨_, fd, fn5 F sc_secret_paper (by decide) (fun cdv A outer s H E hr => ?_), T.g_secret_paper, F.kp, F.bindsN (fun _ _ _ _ _ _ us hl => match us, hl with | [_, _, _, _, _], _ => rfl)⟩⟩
  obtain ⟨t, h, e⟩ := tm_secret_paper T c_bare_sides c_bare_way c_between_lots c_net_fits c_a_want c_many_fits (f := He.ga K "secret_paper") cdv A outer s H E hr
  exact ⟨t, h, fun x1 x2 x3 x4 x5 hp => by rw [e]; exact run_secret_paper x1 x2 x3 x4 x5 hp (paper_b hp.2.1) (paper_len hp.2.1)⟩
theorem ca_can_send (T : Hd.Tx K mg) (c_secret_paper : Cal P w K mg base 8 "secret_paper" ["many", "net", "fears", "one", "other"] (sp_secret_paper K)) : Cal P w K mg base 9 "can_send" ["many", "net", "fears", "one", "other"] (sp_can_send K) := by
  obtain ⟨fd, F⟩ := T.f_can_send
  refine ⟨⟨_, fd, fn5 F sc_can_send (by decide) (fun cdv A outer s H E hr => ?_), T.g_can_send, F.kp, F.bindsN (fun _ _ _ _ _ _ us hl => match us, hl with | [_, _, _, _, _], _ => rfl)⟩⟩
  obtain ⟨t, h, e⟩ := tm_can_send T c_secret_paper (f := He.ga K "can_send") cdv A outer s H E hr
  exact ⟨t, h, fun x1 x2 x3 x4 x5 hp => by rw [e]; exact run_can_send x1 x2 x3 x4 x5 hp⟩
theorem ca__law_left (T : Hd.Tx K mg) (c_left_out : Cal P w K mg base 8 "left_out" ["ground", "house"] (sp_left_out K)) : Cal P w K mg base 9 "_law_left" ["_law_many", "_law_fears_here", "_law_one", "_law_other"] (sp__law_left K) := by
  obtain ⟨fd, F⟩ := T.f__law_left
  refine ⟨⟨_, fd, fn4 F sc__law_left (by decide) (fun cdv A outer s H E hr => ?_), T.g__law_left, F.kp, F.bindsN (fun _ _ _ _ _ _ us hl => match us, hl with | [_, _, _, _], _ => rfl)⟩⟩
  obtain ⟨t, h, e⟩ := tm__law_left T c_left_out (f := He.ga K "_law_left") cdv A outer s H E hr
  exact ⟨t, h, fun x1 x2 x3 x4 hp => by rw [e]; exact run__law_left x1 x2 x3 x4 ⟨hp.fears, hp.big, hp.pair⟩ hp.h31 hp.g1 hp.g2 hp.g3 hp.g4⟩
end
end Dy
/-! ## Ca5 -/
namespace Dy
open PySem L2 PyProof.Rows Mi
section
variable {P : Program} {w : World} {K : Fg} {mg : Str → Option Value} {base : Heap}

theorem ca__law_object (T : Hd.Tx K mg) (c_Net___init__ : FnR P w K mg base CX0 8 (nM K "__init__") (sp_Net___init__ K)) (c_Net___add__ : FnR P w K mg base CX0 12 (nM K "__add__") (sp_Net___add__ K)) : Cal P w K mg base 16 "_law_object" ["_law_many", "_law_wires"] (sp__law_object K) := by
  obtain ⟨fd, F⟩ := T.f__law_object
  refine ⟨⟨_, fd, fn2 F sc__law_object (by decide) (fun cdv A outer s H E hr => ?_), T.g__law_object, F.kp, F.bindsN (fun _ _ _ _ _ _ us hl => match us, hl with | [_, _], _ => rfl)⟩⟩
  obtain ⟨t, h, e⟩ := tm__law_object T c_Net___init__ c_Net___add__ (f := He.ga K "_law_object") cdv A outer s H E hr
  exact ⟨t, h, fun x1 x2 hp => by rw [e]; exact run__law_object T x1 x2 hp⟩
theorem ca__law_past (T : Hd.Tx K mg) (c_is_way : Cal P w K mg base 6 "is_way" ["many", "net", "thing"] (sp_is_way K)) (c__law_way_fits : Cal P w K mg base 2 "_law_way_fits" ["_law_wires", "_law_lot", "_law_one", "_law_other", "_law_way", "_law_least"] (sp__law_way_fits K)) (c_Net_past : FnR P w K mg base CX0 10 (nM K "past") (sp_Net_past K)) (c_way_past : Cal P w K mg base 6 "way_past" ["many", "net", "lot", "one", "other"] (sp_way_past K)) (c_divides : Cal P w K mg base 6 "divides" ["many", "net", "lot", "one", "other"] (sp_divides K)) (c__law_joined : Cal P w K mg base 1 "_law_joined" ["_law_wires", "_law_lot", "_law_house"] (sp__law_joined K)) : CalG P w K mg base 14 "_law_past" ["_law_many", "_law_wires", "_law_lot", "_law_one", "_law_other", "_law_net_here"] (sp__law_past K) := by
  obtain ⟨fd, F⟩ := T.f__law_past
  refine ⟨⟨_, fd, fnG6 F sc__law_past (by decide) (fun cdv A outer s H E hG hr => ?_), T.g__law_past, F.kp, F.bindsN (fun _ _ _ _ _ _ us hl => match us, hl with | [_, _, _, _, _, _], _ => rfl)⟩⟩
  obtain ⟨t, h, e⟩ := tm__law_past T c_is_way c__law_way_fits c_Net_past c_way_past c_divides c__law_joined (f := He.ga K "_law_past") cdv A outer s H E hG hr
  exact ⟨t, h, fun x1 x2 x3 x4 x5 x6 hp => by rw [e]; exact run__law_past T x1 x2 x3 x4 x5 x6 hp⟩
theorem ca__law_sides (T : Hd.Tx K mg) (c_Net___len__ : FnR P w K mg base CX0 4 (nM K "__len__") (sp_Net___len__ K)) (c_Net___invert__ : FnR P w K mg base CX0 16 (nM K "__invert__") (sp_Net___invert__ K)) (c_Net___iter__ : FnR P w K mg base CX0 4 (nM K "__iter__") (sp_Net___iter__ K)) (c__law_mesh : Cal P w K mg base 2 "_law_mesh" ["_law_many"] (sp__law_mesh K)) (c_Net___getitem__ : FnR P w K mg base CX0 10 (nM K "__getitem__") (sp_Net___getitem__ K)) (c_wired_to : Cal P w K mg base 6 "wired_to" ["many", "net", "house"] (sp_wired_to K)) (c_Net___call__ : FnR P w K mg base CX0 10 (nM K "__call__") (sp_Net___call__ K)) (c_sides_of : Cal P w K mg base 6 "sides_of" ["many", "net", "lot"] (sp_sides_of K)) (c__law_others : Cal P w K mg base 1 "_law_others" ["_law_many", "_law_lot"] (sp__law_others K)) (c__law_joined : Cal P w K mg base 1 "_law_joined" ["_law_wires", "_law_lot", "_law_house"] (sp__law_joined K)) : CalG P w K mg base 20 "_law_sides" ["_law_many", "_law_wires", "_law_lot", "_law_net_here"] (sp__law_sides K) := by
  obtain ⟨fd, F⟩ := T.f__law_sides
  refine ⟨⟨_, fd, fnG4 F sc__law_sides (by decide) (fun cdv A outer s H E hG hr => ?_), T.g__law_sides, F.kp, F.bindsN (fun _ _ _ _ _ _ us hl => match us, hl with | [_, _, _, _], _ => rfl)⟩⟩
  obtain ⟨t, h, e⟩ := tm__law_sides T c_Net___len__ c_Net___invert__ c_Net___iter__ c__law_mesh c_Net___getitem__ c_wired_to c_Net___call__ c_sides_of c__law_others c__law_joined (f := He.ga K "_law_sides") cdv A outer s H E hG hr
  exact ⟨t, h, fun x1 x2 x3 x4 hp => by rw [e]; exact run__law_sides T x1 x2 x3 x4 hp⟩
end
end Dy
/-! ## Ca6 -/
namespace Dy
open PySem L2 PyProof.Rows Mi
section
variable {P : Program} {w : World} {K : Fg} {mg : Str → Option Value} {base : Heap}

theorem ca__law_well (T : Hd.Tx K mg)  : Cal P w K mg base 1 "_law_well" ["_law_script"] (sp__law_well K) := by
  obtain ⟨fd, F⟩ := T.f__law_well
  refine ⟨⟨_, fd, fn1 F sc__law_well (by decide) (fun cdv A outer s H E hr => ?_), T.g__law_well, F.kp, F.bindsN (fun _ _ _ _ _ _ us hl => match us, hl with | [_], _ => rfl)⟩⟩
  obtain ⟨t, h, e⟩ := tm__law_well T  (f := He.ga K "_law_well") cdv A outer s H E hr
  exact ⟨t, h, fun x1 hp => by rw [e]; exact run__law_well x1 hp⟩
theorem ca__law_draw (T : Hd.Tx K mg)  : Cal P w K mg base 1 "_law_draw" ["_law_well_here", "_law_many"] (sp__law_draw K) := by
  obtain ⟨fd, F⟩ := T.f__law_draw
  refine ⟨⟨_, fd, fnD1 F sc__law_draw (by decide) (fun cdv A outer s H E hr => ?_), T.g__law_draw, F.kp, F.bindsN (fun _ _ _ _ _ _ us hl => match us, hl with | [_, _], _ => rfl)⟩⟩
  obtain ⟨t, h, e⟩ := tm__law_draw T  (f := He.ga K "_law_draw") cdv A outer s H E hr
  exact ⟨t, h, fun l c x0 hp => by rw [e]; exact run__law_draw l c x0 hp⟩
theorem ca__law_fears (T : Hd.Tx K mg) (c__law_greatest : Cal P w K mg base 2 "_law_greatest" ["_law_lots_here"] (sp__law_greatest K)) (c__law_draw : Cal P w K mg base 1 "_law_draw" ["_law_well_here", "_law_many"] (sp__law_draw K)) (c__law_lots : Cal P w K mg base 1 "_law_lots" ["_law_many"] (sp__law_lots K)) (c__law_others : Cal P w K mg base 1 "_law_others" ["_law_many", "_law_lot"] (sp__law_others K)) : Cal P w K mg base 3 "_law_fears" ["_law_well_here", "_law_many"] (sp__law_fears K) := by
  obtain ⟨fd, F⟩ := T.f__law_fears
  refine ⟨⟨_, fd, fnD1 F sc__law_fears (by decide) (fun cdv A outer s H E hr => ?_), T.g__law_fears, F.kp, F.bindsN (fun _ _ _ _ _ _ us hl => match us, hl with | [_, _], _ => rfl)⟩⟩
  obtain ⟨t, h, e⟩ := tm__law_fears T c__law_greatest c__law_draw c__law_lots c__law_others (f := He.ga K "_law_fears") cdv A outer s H E hr
  exact ⟨t, h, fun l c x0 hp => by rw [e]; exact run__law_fears l c x0 hp⟩
theorem ca__law_net (T : Hd.Tx K mg) (c__law_mesh : Cal P w K mg base 2 "_law_mesh" ["_law_many"] (sp__law_mesh K)) (c__law_draw : Cal P w K mg base 1 "_law_draw" ["_law_well_here", "_law_many"] (sp__law_draw K)) : Cal P w K mg base 3 "_law_net" ["_law_well_here", "_law_many"] (sp__law_net K) := by
  obtain ⟨fd, F⟩ := T.f__law_net
  refine ⟨⟨_, fd, fnD1 F sc__law_net (by decide) (fun cdv A outer s H E hr => ?_), T.g__law_net, F.kp, F.bindsN (fun _ _ _ _ _ _ us hl => match us, hl with | [_, _], _ => rfl)⟩⟩
  obtain ⟨t, h, e⟩ := tm__law_net T c__law_mesh c__law_draw (f := He.ga K "_law_net") cdv A outer s H E hr
  exact ⟨t, h, fun l c x0 hp => by rw [e]; exact run__law_net l c x0 hp⟩
theorem ca__law_thin (T : Hd.Tx K mg) (c__law_draw : Cal P w K mg base 1 "_law_draw" ["_law_well_here", "_law_many"] (sp__law_draw K)) (c__law_divided : Cal P w K mg base 2 "_law_divided" ["_law_many", "_law_wires", "_law_feared_here"] (sp__law_divided K)) (c__law_mesh : Cal P w K mg base 2 "_law_mesh" ["_law_many"] (sp__law_mesh K)) : Cal P w K mg base 3 "_law_thin" ["_law_well_here", "_law_many", "_law_feared_here"] (sp__law_thin K) := by
  obtain ⟨fd, F⟩ := T.f__law_thin
  refine ⟨⟨_, fd, fnD2 F sc__law_thin (by decide) (fun cdv A outer s H E hr => ?_), T.g__law_thin, F.kp, F.bindsN (fun _ _ _ _ _ _ us hl => match us, hl with | [_, _, _], _ => rfl)⟩⟩
  obtain ⟨t, h, e⟩ := tm__law_thin T c__law_draw c__law_divided c__law_mesh (f := He.ga K "_law_thin") cdv A outer s H E hr
  exact ⟨t, h, fun l c x0 x1 hp => by rw [e]; exact run__law_thin l c x0 x1 hp⟩
end
end Dy
/-! ## Tm8 -/
namespace Dy
open PySem L2 PyProof.Rows Mi
/-! ### what is raised -/
section
variable (K : Fg)
/-- NotUsable.__init__ on the new exception -/
def sp_NotUsable___init__ : Sp := fun vs H Q _ => ∃ (a : Addr) (wd at_ : V), vs = [V.ref a, wd, at_] ∧ H a = some (exo a (uC K) none) ∧ ∀ dx, H dx = none → dx ≠ a → Q .non (upd (upd (upd H dx (exd dx [("word", wd)])) a (exo a (uC K) (some dx))) dx (exd dx [("at", at_), ("word", wd)]))
/-- the exception's own dict -/
def badF (wd : Str) : List (Str × V) := [("at", .int (-1)), ("word", .str wd)]
def Raised (E : XK) (H : Hp) (wd : Str) : Prop := ∀ d H', Ex H H' → H' d = some (.xd (badF wd)) → E (.ref (uC K)) (some d) H'
def sp_wantX : Sp := fun vs H _ E => ∃ wd : Str, vs = [V.bl false, V.str wd] ∧ Raised K E H wd
def sp_neededX : Sp := fun vs H _ E => ∃ (m : Int) (net : List Wire) (fs : List Lot), PCons K m (PCons K net (PCons K fs PNil)) vs H ∧ (Net6 m net ∧ Fear6 m fs ∧ sturdy m net fs = false) ∧ Raised K E H "fears"
end
section
variable {P : Program} {w : World} {K : Fg} {mg : Str → Option Value} {base : Heap} {f : Addr}

def rd_NotUsable___init__ (P : Program) (w : World) (K : Fg) : TS := (tSeq (tOst K "word" (tVar 0) (tVar 1)) (tOst K "at" (tVar 0) (tVar 2)))
theorem sc_NotUsable___init__ : FnScope ["self", "word", "at"] ["self", "word", "at"] (defScope Hd.s_NotUsable___init__) := ⟨rfl, rfl, rfl, by decide +kernel, rfl, by decide +kernel, by decide +kernel⟩
theorem tm_NotUsable___init__ (T : Hd.Tx K mg)  : BodyOk P w K mg base ["self", "word", "at"] "NotUsable.__init__" Hd.s_NotUsable___init__ f 0 (fun t => t = rd_NotUsable___init__ P w K) :=
  fun cdv A outer s H E hr => ⟨_, (pss_cons (ps_ost (pv 0) (pv 1)) (pss_one (ps_ost (pv 0) (pv 2)))), rfl⟩
def rd_wantX (K : Fg) (W : WX) : TS := tIfS (tNot (tB (tVar 0))) (fun _ σ H => tMkO (uC K) (sp_NotUsable___init__ K) [] (tCons (tVar 1) (tCons (tUn (rU fun i => V.int (-i)) (tC (.int 1))) tNil)) σ H fun cls d H' => W cls d σ H') tNext
theorem tm_wantX (T : Hd.Tx K mg) {fdU : FuncData} (FU : FnOk P w K mg base CX0 1 (He.ma K (He.ga K "NotUsable") "__init__") fdU ["self", "word", "at"] (sp_NotUsable___init__ K)) (bU : Binds K fdU ["self", "word", "at"] []) (cdv : Value) (A : Around) (outer : List Env) (s : Shared) (H : Hp) (E : XK) (hr : Room 2 (A.deeper (envOfC "a_want" (defScope Hd.s_a_want) s.heap.objs.size f cdv))) :
    PSs (cxOf (L2.CX P w) P w K mg base ["good", "word"] "a_want" (defScope Hd.s_a_want) f cdv A outer s H E) (defBody Hd.s_a_want) (rd_wantX K fun cls d _ H => E cls d H) :=
  pss_one (ps_if (pt_not (pt_val (pv 0))) (pss_one (ps_raise rfl (takes_of rfl rfl rfl rfl) (pmk_oex T.oex (nt_meth_NotUsable_init T).at_ (beq_iff_eq.mp (nt_meth_NotUsable_init T).fn) FU hr bU .nil pass0 rfl T.g_NotUsable (pa_cons (pv 1) (pa_cons (pe_un un_neg pe_int) pa_nil))))) pss_nil)
def rd_neededX (P : Program) (w : World) (K : Fg) (W : WX) : TS := tSeq (tDrop (tCallS (sp_wantX K) (WE W) (tCons (tCall (sp_is_sturdy K) [] E0 (tCons (tVar 0) (tCons (tVar 1) (tCons (tVar 2) tNil)))) (tCons (tC (.str "fears")) tNil)))) (tSeq (tAsg (tCall (sp_feared_lots K) [] E0 (tCons (tVar 0) (tCons (tVar 2) tNil))) (gName 3)) (tSeq (tAsg (tLst tNil) (gName 4)) (tSeq (tFor (iSeq K (tVar 1)) (gName 5) (tSeq (tAsg (tCB (rTupQ K) (tCons (tLc (iSeq K (tVar 1)) (gName 7) (tTest (tOp (rNeU K) (tVar 7) (tVar 5))) (tVar 7) [7]) tNil)) (gName 6)) (tIfS (tB (tCB (rAny K) (tCons (tLc (iSeq K (tVar 3)) (gName 8) tYes (tOp (rI0 fun i j => V.bl (decide (j < i))) (tCB (rLenQ K) (tCons (tCall (sp_bare_sides K) [] E0 (tCons (tVar 0) (tCons (tVar 6) (tCons (tVar 8) tNil)))) tNil)) (tC (.int 1))) [8]) tNil))) (tDrop (tBM K "list" rAppend (tVar 4) (tCons (tVar 5) tNil))) tNext))) (tRet (tCB (rTupQ K) (tCons (tVar 4) tNil))))))
theorem tm_neededX (T : Hd.Tx K mg) (c_is_sturdy : Cal P w K mg base 9 "is_sturdy" ["many", "net", "fears"] (sp_is_sturdy K)) (c_bare_sides : Cal P w K mg base 2 "bare_sides" ["many", "net", "lot"] (sp_bare_sides K)) (c_feared_lots : Cal P w K mg base 7 "feared_lots" ["many", "fears"] (sp_feared_lots K)) {fdW : FuncData} (FW : FnOk P w K mg base (L2.CX P w) 3 (He.ga K "a_want") fdW ["good", "word"] (sp_wantX K)) (kW : PySem.W.keepIn K (.ref (He.ga K "a_want")) = true) (bW : Binds K fdW ["good", "word"] []) (cdv : Value) (A : Around) (outer : List Env) (s : Shared) (H : Hp) (E : XK) (hr : Room 9 (A.deeper (envOfC "needed_wires" (defScope Hd.s_needed_wires) s.heap.objs.size f cdv))) :
    PSs (cxOf (L2.CX P w) P w K mg base ["many", "net", "fears", "lots", "needed", "wire", "rest", "other", "lot"] "needed_wires" (defScope Hd.s_needed_wires) f cdv A outer s H E) (defBody Hd.s_needed_wires) (rd_neededX P w K fun cls d _ H => E cls d H) :=
  have tk : Takes (cxOf (L2.CX P w) P w K mg base ["many", "net", "fears", "lots", "needed", "wire", "rest", "other", "lot"] "needed_wires" (defScope Hd.s_needed_wires) f cdv A outer s H E) (fun cls d _ H => E cls d H) := takes_of rfl rfl rfl rfl
  pss_cons (ps_expr (pe_callS FW (hr.mono (by decide)) rfl T.g_a_want kW bW (fun σ => passAt tk σ) (pa_cons (pc c_is_sturdy (hr.mono (by decide)) rfl (pa_cons (pv 0) (pa_cons (pv 1) (pa_cons (pv 2) pa_nil)))) (pa_cons pe_str pa_nil)))) (PSs.nox (pss_cons (ps_set (i := 3) sc_needed_wires.nd rfl (Or.inl rfl) (pc c_feared_lots (hr.mono (by decide)) rfl (pa_cons (pv 0) (pa_cons (pv 2) pa_nil)))) (pss_cons (ps_set (i := 4) sc_needed_wires.nd rfl (Or.inl rfl) (pe_lst pa_nil)) (pss_cons (ps_for PassesOwn.never rfl (pi_seq (pv 1)) (pg_name (i := 5) sc_needed_wires.nd rfl (Or.inr rfl)) (pss_cons (ps_set (i := 6) sc_needed_wires.nd rfl (Or.inr rfl) (pe_callTy call_tupQ (by rfl) T.b_tuple (by decide +kernel) (pa_cons (pe_lc (own := [("other", 7)]) rfl sc_needed_wires.nd (pi_seq (pv 1)) (blkOk_by (by kernel_rfl)) (fun _ _ _ _ _ => (pg_name (i := 7) sc_needed_wires.nd rfl (by first | exact Or.inl rfl | exact Or.inr rfl))) (fun _ _ _ _ _ => (pts_one (pt_cmpR (op_neU hr.units) (pv 7) (pv 5) (nomark _)))) (fun _ _ _ _ _ => (pv 7))) pa_nil))) (pss_one (ps_if (pt_val (pe_callB (cr_any rfl) (by rfl) T.b_any (by decide +kernel) (pa_cons (pe_lc (own := [("lot", 8)]) rfl sc_needed_wires.nd (pi_seq (pv 3)) (blkOk_by (by kernel_rfl)) (fun _ _ _ _ _ => (pg_name (i := 8) sc_needed_wires.nd rfl (by first | exact Or.inl rfl | exact Or.inr rfl))) (fun _ _ _ _ _ => pts_nil) (fun _ _ _ _ _ => (pe_cmpR op_gt (pe_callB call_lenQ (by rfl) T.b_len PySem.boot_len (pa_cons (pc c_bare_sides (hr.mono (by decide)) rfl (pa_cons (pv 0) (pa_cons (pv 6) (pa_cons (pv 8) pa_nil)))) pa_nil)) pe_int (nomark _)))) pa_nil))) (pss_one (ps_expr (pe_bm PySem.F.plainAttrs_list PySem.F.slot_list_append PySem.F.type_list_append mt_append (pv 4) (pa_cons (pv 5) pa_nil)))) pss_nil)))) (pss_one (ps_ret (pe_callTy call_tupQ (by rfl) T.b_tuple (by decide +kernel) (pa_cons (pv 4) pa_nil))))))))
theorem sc__law_needed : FnScope ["_law_many", "_law_wires", "_law_fears_here", "_law_feared_here", "_law_due", "_law_wire", "_law_rest", "e", "_law_each"] ["_law_many", "_law_wires", "_law_fears_here", "_law_feared_here"] (defScope Hd.s__law_needed) := ⟨rfl, rfl, rfl, by decide +kernel, rfl, by decide +kernel, by decide +kernel⟩
def ts_needed (K : Fg) (a : Addr) (cls : Value) (d : Option Addr) : TS := (tRet (tOp (rEqU K) (tCB (rRepr K) (tCons (tTup (tCons (tXf a cls d (uC K) "word" (tVar 7)) (tCons (tXf a cls d (uC K) "at" (tVar 7)) tNil))) tNil)) (tCB (rRepr K) (tCons (tTup (tCons (tC (.str "fears")) (tCons (tUn (rU fun i => V.int (-i)) (tC (.int 1))) tNil))) tNil))))
def rd_try (K : Fg) : TS := fun D σ H => tDrop (tCallS (sp_neededX K) (WE (wAs K (.ref (uC K)) 7 (ts_needed K) (fun _ _ _ _ => False) D)) (tCons (tVar 0) (tCons (tVar 1) (tCons (tVar 2) tNil)))) D σ H
def rd__law_needed (P : Program) (w : World) (K : Fg) : TS := (tSeq (tAsg (tLst tNil) (gName 4)) (tSeq (tIfS (tTest (tOp (rI0 fun i j => V.bl (decide (j < i))) (tOp (rMulU K) (tCB (rLenQ K) (tCons (tVar 1) tNil)) (tCB (rLenQ K) (tCons (tVar 3) tNil))) (tC (.int 400)))) (tRet (tC (.bl true))) tNext) (tSeq (tFor (iSeq K (tVar 1)) (gName 5) (tSeq (tAsg (tLc (iSeq K (tVar 1)) (gName 8) (tTest (tOp (rNeU K) (tVar 8) (tVar 5))) (tVar 8) [8]) (gName 6)) (tIfS (tTest (tOp (rNeU K) (tCall (sp__law_divided K) [] E0 (tCons (tVar 0) (tCons (tVar 6) (tCons (tVar 3) tNil)))) (tLst tNil))) (tDrop (tBM K "list" rAppend (tVar 4) (tCons (tVar 5) tNil))) tNext))) (tSeq (tIfS (tTest (tOp (rEqU K) (tCall (sp__law_divided K) [] E0 (tCons (tVar 0) (tCons (tVar 1) (tCons (tVar 3) tNil)))) (tLst tNil))) (tRet (tOp (rEqU K) (tCB (rRepr K) (tCons (tCall (sp_needed_wires K) [] E0 (tCons (tVar 0) (tCons (tVar 1) (tCons (tVar 2) tNil)))) tNil)) (tCB (rRepr K) (tCons (tCB (rTupQ K) (tCons (tVar 4) tNil)) tNil)))) tNext) (tSeq (rd_try K) (tRet (tC (.bl false))))))))
theorem tm__law_needed (T : Hd.Tx K mg) (c__law_divided : Cal P w K mg base 2 "_law_divided" ["_law_many", "_law_wires", "_law_feared_here"] (sp__law_divided K)) (c_needed_wires : Cal P w K mg base 10 "needed_wires" ["many", "net", "fears"] (sp_needed_wires K)) {fdN : FuncData} (FN : FnOk P w K mg base (L2.CX P w) 10 (He.ga K "needed_wires") fdN ["many", "net", "fears"] (sp_neededX K)) (kN : PySem.W.keepIn K (.ref (He.ga K "needed_wires")) = true) (bN : Binds K fdN ["many", "net", "fears"] []) : BodyG P w K mg base ["_law_many", "_law_wires", "_law_fears_here", "_law_feared_here", "_law_due", "_law_wire", "_law_rest", "e", "_law_each"] "_law_needed" Hd.s__law_needed f 10 (fun t => t = rd__law_needed P w K) :=
  fun cdv A outer s H E hG hr => ⟨_, (pss_cons (ps_set (i := 4) sc__law_needed.nd rfl (Or.inl rfl) (pe_lst pa_nil)) (pss_cons (ps_if (pt_cmpR op_gt (pe_op op_mulU (pe_callB call_lenQ (by rfl) T.b_len PySem.boot_len (pa_cons (pv 1) pa_nil)) (pe_callB call_lenQ (by rfl) T.b_len PySem.boot_len (pa_cons (pv 3) pa_nil))) pe_int (nomark _)) (pss_one (ps_ret pe_bl)) pss_nil) (pss_cons (ps_for PassesOwn.never rfl (pi_seq (pv 1)) (pg_name (i := 5) sc__law_needed.nd rfl (Or.inr rfl)) (pss_cons (ps_setLc (i := 6) (own := [("_law_each", 8)]) rfl sc__law_needed.nd rfl rfl (sw_true rfl rfl rfl (by kernel_rfl)) (pi_seq (pv 1)) (blkOk_by (by kernel_rfl)) (fun _ _ _ _ _ => (pg_name (i := 8) sc__law_needed.nd rfl (by first | exact Or.inl rfl | exact Or.inr rfl))) (fun _ _ _ _ _ => (pts_one (pt_cmpR (op_neU hr.units) (pv 8) (pv 5) (nomark _)))) (fun _ _ _ _ _ => (pv 8))) (pss_one (ps_if (pt_cmpR (op_neU hr.units) (pc c__law_divided (hr.mono (by decide)) rfl (pa_cons (pv 0) (pa_cons (pv 6) (pa_cons (pv 3) pa_nil)))) (pe_lst pa_nil) (nomark _)) (pss_one (ps_expr (pe_bm PySem.F.plainAttrs_list PySem.F.slot_list_append PySem.F.type_list_append mt_append (pv 4) (pa_cons (pv 5) pa_nil)))) pss_nil)))) (pss_cons (ps_if (pt_cmpR (op_eqU hr.units) (pc c__law_divided (hr.mono (by decide)) rfl (pa_cons (pv 0) (pa_cons (pv 1) (pa_cons (pv 3) pa_nil)))) (pe_lst pa_nil) (nomark _)) (pss_one (ps_ret (pe_cmpR (op_eqU hr.units) (pe_callB (cr_repr hG hr.units) (by rfl) T.b_repr (by decide +kernel) (pa_cons (pc c_needed_wires (hr.mono (by decide)) rfl (pa_cons (pv 0) (pa_cons (pv 1) (pa_cons (pv 2) pa_nil)))) pa_nil)) (pe_callB (cr_repr hG hr.units) (by rfl) T.b_repr (by decide +kernel) (pa_cons (pe_callTy call_tupQ (by rfl) T.b_tuple (by decide +kernel) (pa_cons (pv 4) pa_nil)) pa_nil)) (nomark _)))) pss_nil) (pss_cons (ps_try_as (i := 7) (tb := fun W => tDrop (tCallS (sp_neededX K) (WE W) (tCons (tVar 0) (tCons (tVar 1) (tCons (tVar 2) tNil))))) (ts := ts_needed K) (Wout := fun _ _ _ _ => False) rfl rfl sc__law_needed.nd rfl rfl ⟨rfl, by decide, Or.inl T.g_NotUsable⟩ takes0 (fun W pn xe tk _ => pss_one (ps_expr (pe_callS FN (hr.mono (by decide)) rfl T.g_needed_wires kN bN (fun σ => passAt tk σ) (pa_cons (pv 0) (pa_cons (pv 1) (pa_cons (pv 2) pa_nil)))))) (fun a oe cls d pn hz hf => (pss_one (ps_ret (pe_cmpR (op_eqU hr.units) (pe_callB (cr_repr hG hr.units) (by rfl) T.b_repr (by decide +kernel) (pa_cons (pe_tup (pa_cons (pe_xf T.xf (nt_noat_NotUsable_word T) hz hf (pv 7)) (pa_cons (pe_xf T.xf (nt_noat_NotUsable_at T) hz hf (pv 7)) pa_nil))) pa_nil)) (pe_callB (cr_repr hG hr.units) (by rfl) T.b_repr (by decide +kernel) (pa_cons (pe_tup (pa_cons pe_str (pa_cons (pe_un un_neg pe_int) pa_nil))) pa_nil)) (nomark _)))))) (pss_one (ps_ret pe_bl))))))), rfl⟩
end
end Dy
/-! ## Ex1 -/
namespace Dy
open PySem L2 PyProof.Rows Mi
local macro_rules | `(tactic| trivial) => `(tactic| (repeat (first | exact Le.stop | apply Le.same | apply Le.drop)); done)
section
variable {P : Program} {w : World} {K : Fg} {mg : Str → Option Value} {base : Heap}
theorem ok_NotUsable_init (T : Hd.Tx K mg) {fd : FuncData} (F : FunD K "__init__" "NotUsable.__init__" (defArgs Hd.s_NotUsable___init__) (defBody Hd.s_NotUsable___init__) (defScope Hd.s_NotUsable___init__) [] [] (He.ma K (He.ga K "NotUsable") "__init__") fd) :
    FnOk P w K mg base CX0 1 (He.ma K (He.ga K "NotUsable") "__init__") fd ["self", "word", "at"] (sp_NotUsable___init__ K) := by
  refine FunD.ok F sc_NotUsable___init__ (fun vs H Q E h => ?_) (fun cdv A outer s H vs Q E hr h => ?_)
  · obtain ⟨a, wd, at_, rfl, _⟩ := h
    rfl
  · obtain ⟨t, h1, e⟩ := tm_NotUsable___init__ T (f := He.ma K (He.ga K "NotUsable") "__init__") cdv A outer s H E hr
    obtain ⟨a, wd, at_, rfl, ha, q⟩ := h
    refine ⟨t, PSs.nox h1, ?_⟩
    rw [e]
    exact ⟨wd, rfl, .ref a, rfl, a, uC K, rfl, T.oex, nt_noat_NotUsable_word T, .inl ⟨ha, fun dx hdx hne => ⟨at_, rfl, .ref a, rfl, a, uC K, rfl, T.oex, nt_noat_NotUsable_at T, .inr ⟨dx, [("word", wd)], upd_same, by rw [upd_ne hne]; exact upd_same, (show 1 ≤ 900 by decide), q dx hdx hne⟩⟩⟩⟩
theorem ok_wantX (T : Hd.Tx K mg) : ∃ fd, FnOk P w K mg base (L2.CX P w) 3 (He.ga K "a_want") fd ["good", "word"] (sp_wantX K) ∧ PySem.W.keepIn K (.ref (He.ga K "a_want")) = true ∧ Binds K fd ["good", "word"] [] := by
  obtain ⟨fd, F⟩ := T.f_a_want
  obtain ⟨fu, FU⟩ := T.f_NotUsable___init__
  refine ⟨fd, FunD.ok F sc_a_want (fun vs H Q E h => ?_) (fun cdv A outer s H vs Q E hr h => ?_), F.kp, F.bindsN (fun _ _ _ _ _ _ us hl => match us, hl with | [_, _], _ => rfl)⟩
  · obtain ⟨wd, rfl, _⟩ := h
    rfl
  · obtain ⟨wd, rfl, q⟩ := h
    refine ⟨_, tm_wantX T (ok_NotUsable_init T FU) (FU.bindsN (fun _ _ _ _ _ _ us hl => match us, hl with | [_, _, _], _ => rfl)) cdv A outer s H E hr, ?_⟩
    refine ⟨.bl false, rfl, false, rfl, .str wd, rfl, 1, rfl, (show 2 ≤ 1000 by decide), fun a ha => ?_⟩
    refine ⟨a, .str wd, .int (-1), rfl, upd_same, fun dx hdx hne => ⟨rfl, dx, badF wd, ?_, upd_same, ?_, ?_⟩⟩
    · rw [upd_ne (Ne.symm hne)]
      exact upd_same
    · rw [upd_ne hne] at hdx
      exact hdx
    · rw [upd_ne hne] at hdx
      refine q dx _ (fun b o hb => ?_) upd_same
      have b1 : b ≠ dx := fun z => by
        rw [z, hdx] at hb
        cases hb
      have b2 : b ≠ a := fun z => by
        rw [z, ha] at hb
        cases hb
      rw [upd_ne b1, del_ne b2, upd_ne b1, upd_ne b2, upd_ne b1, upd_ne b2]
      exact hb
theorem ok_neededX (T : Hd.Tx K mg) (c_is_sturdy : Cal P w K mg base 9 "is_sturdy" ["many", "net", "fears"] (sp_is_sturdy K)) (c_bare_sides : Cal P w K mg base 2 "bare_sides" ["many", "net", "lot"] (sp_bare_sides K)) (c_feared_lots : Cal P w K mg base 7 "feared_lots" ["many", "fears"] (sp_feared_lots K)) :
    ∃ fd, FnOk P w K mg base (L2.CX P w) 10 (He.ga K "needed_wires") fd ["many", "net", "fears"] (sp_neededX K) ∧ PySem.W.keepIn K (.ref (He.ga K "needed_wires")) = true ∧ Binds K fd ["many", "net", "fears"] [] := by
  obtain ⟨fd, F⟩ := T.f_needed_wires
  obtain ⟨fdW, FW, kW, bW⟩ := ok_wantX (P := P) (w := w) (base := base) T
  refine ⟨fd, FunD.ok F sc_needed_wires (fun vs H Q E h => ?_) (fun cdv A outer s H vs Q E hr h => ?_), F.kp, F.bindsN (fun _ _ _ _ _ _ us hl => match us, hl with | [_, _, _], _ => rfl)⟩
  · obtain ⟨m, net, fs, ⟨v1, _, rfl, _, v2, _, rfl, _, v3, _, rfl, _, rfl⟩, _⟩ := h
    rfl
  · obtain ⟨m, net, fs, ⟨v1, _, rfl, r1, v2, _, rfl, r2, v3, _, rfl, r3, rfl⟩, ⟨h1, h2, h3⟩, q⟩ := h
    refine ⟨_, tm_neededX T c_is_sturdy c_bare_sides c_feared_lots FW kW bW cdv A outer s H E hr, ?_⟩
    have k0 : Kn K H (fun _ => none) H (L2.start ["many", "net", "fears", "lots", "needed", "wire", "rest", "other", "lot"] [v1, v2, v3]) ([.fz m, .fz net, .fz fs] ++ anys 6) := kn_start (Γ := [.fz m, .fz net, .fz fs]) (N := ["many", "net", "fears", "lots", "needed", "wire", "rest", "other", "lot"]) (.cons ⟨_, rfl, r1⟩ (fun _ _ z => nomatch z) (.cons ⟨_, rfl, r2⟩ (fun _ _ z => nomatch z) (.cons ⟨_, rfl, r3⟩ (fun _ _ z => nomatch z) .nil))) (show 3 ≤ 9 by decide)
    have ea : EvA K (tCons (tCall (sp_is_sturdy K) [] E0 (tCons (tVar 0) (tCons (tVar 1) (tCons (tVar 2) tNil)))) (tCons (tC (.str "fears")) tNil)) ([.fz m, .fz net, .fz fs] ++ anys 6) (PCons K (sturdy m net fs) (PCons K ("fears" : Str) PNil)) :=
      ea_cons (EvN.ev (ev_sp3 (ea_cons (ev_fz rfl) (ea_cons (ev_fz rfl) (ea_cons (ev_fz rfl) ea_nil))) ⟨h1, h2⟩)) (ea_cons ev_str ea_nil)
    unfold rd_neededX tSeq tDrop tCallS
    refine ea _ _ _ H k0 _ fun vs H1 e1 ⟨u1, _, e2, s1, u2, _, e3, s2, e4⟩ => ?_
    subst e2 e3 e4
    rw [h3] at s1
    have s1 : u1 = .bl false := s1
    have s2 : u2 = .str "fears" := s2
    subst s1 s2
    exact ⟨"fears", rfl, fun d H' e => q d H' (e1.trans e)⟩
def badD : PyData := .tuple [.str "fears", .int (-1)]
/-- the clause that catches it -/
theorem run_try (T : Hd.Tx K mg) {m : Int} {net : List Wire} {fs : List Lot} {e3 e4 e5 e6 e7 e8 : Ent} (h : Net6 m net ∧ Fear6 m fs ∧ sturdy m net fs = false) : Run K (rd_try K) [.fz m, .fz net, .fz fs, e3, e4, e5, e6, e7, e8] (.ret true []) := fun B F σ H D k p => by
  have ea : EvA K (tCons (tVar 0) (tCons (tVar 1) (tCons (tVar 2) tNil))) [.fz m, .fz net, .fz fs, e3, e4, e5, e6, e7, e8] (PCons K m (PCons K net (PCons K fs PNil))) := ea_cons (ev_fz rfl) (ea_cons (ev_fz rfl) (ea_cons (ev_fz rfl) ea_nil))
  unfold rd_try tDrop tCallS
  refine ea B F σ H k _ fun vs H1 e1 pv => ⟨m, net, fs, pv, h, fun d H' ex hd => ⟨true, nt_exm_NotUsable_NotUsable_true T, fun _ a ha => ?_, fun z => nomatch z⟩⟩
  have hs : (σ.set 7 (some (.ref a)))[7]? = some (some (V.ref a)) := List.getElem?_set_self (Nat.lt_of_lt_of_le (by decide : 7 < 9) k.len)
  have sh : Sh badD 1000 := ⟨by decide +kernel, by decide +kernel, by decide +kernel⟩
  have rp : ∀ {x : V} {H2 : Hp} {Q : VK}, Dp K H2 x badD → Q (.str badD.shown) H2 → rRepr K [x] H2 Q := fun {x H2 Q} hx q => ⟨x, badD, rfl, hx, sh.2.1, by decide +kernel, by decide +kernel, sh.fits (by decide), (fun _ z => by unfold badD at z; cases z), (fun _ z => by unfold badD at z; cases z), (fun z => by unfold badD at z; cases z), q⟩
  refine ⟨.ref a, hs, rfl, rfl, d, badF "fears", .str "fears", rfl, hd, rfl, .ref a, hs, rfl, rfl, d, badF "fears", .int (-1), rfl, hd, rfl, Nat.le_of_ble_eq_true rfl, fun p1 hp1 => ?_⟩
  dsimp only [tNil]
  refine rp (.tup (SqT.of upd_same) (.cons (.str _) (.cons (.int _) .nil))) ⟨1, rfl, Nat.le_of_ble_eq_true rfl, fun p2 hp2 => ?_⟩
  dsimp only [tNil]
  refine rp (.tup (SqT.of upd_same) (.cons (.str _) (.cons (.int _) .nil))) (.inr ⟨rfl, ?_⟩)
  have eq : decide (V.str badD.shown = V.str badD.shown) = true := decide_eq_true rfl
  rw [eq]
  exact p _ σ _ ((k.mono (((e1.trans ex).trans (Evl.Ex.new hp1)).trans (Evl.Ex.new hp2))).le .stop) rfl True.intro
end
end Dy
/-! ## Ex2 -/
namespace Dy
open PySem L2 PyProof.Rows Mi
local macro_rules | `(tactic| trivial) => `(tactic| (repeat (first | exact Le.stop | apply Le.same | apply Le.drop)); done)
section
variable {P : Program} {w : World} {K : Fg} {mg : Str → Option Value} {base : Heap}
theorem small_log {n : Nat} (h : n ≤ 1000) : n.log2 < 1000 := by
  by_cases e : n = 0
  · subst e
    decide
  · have := Nat.log2_lt e (k := 10)
    have z := this.mpr (by omega)
    omega
theorem shows_wires {m : Int} {net : List Wire} (h : NetOk m net) (hm : m ≤ 6) : Shows (Dat.d net) := by
  refine ⟨?_, (fun _ z => by cases z), (fun _ z => by cases z), (fun z => by cases z)⟩
  refine (sh_tup (n := 24) (m := 15) (fun x hx => ?_) (by rw [List.length_map]; exact net_len h hm) : Sh (.tuple (net.map Dat.d)) (15 * 25)).le (by decide)
  obtain ⟨p, hp, rfl⟩ := List.mem_map.mp hx
  obtain ⟨h1, h2, h3⟩ := h.1 p hp
  refine (sh_tup (n := 11) (m := 2) (fun y hy => ?_) (by simp) : Sh (.tuple [Dat.d p.1, Dat.d p.2]) 24)
  have : y = Dat.d p.1 ∨ y = Dat.d p.2 := by simpa using hy
  rcases this with e | e
  · rw [e]
    exact (sh_int (by omega) (by omega) : Sh (.int p.1) 11)
  · rw [e]
    exact (sh_int (by omega) (by omega) : Sh (.int p.2) 11)
theorem run__law_needed (T : Hd.Tx K mg) (x1 : Int) (x2 : List Wire) (x3 : List Lot) (x4 : Lst Lot) (hp : x4.l = lawFeared x1 x3 ∧ LawIn x1 x3 x2) : Run K (rd__law_needed P w K) [.fz x1, .fz x2, .fz x3, .bs x4, .any, .any, .any, .any, .any] (.ret true []) := by
  obtain ⟨fe⟩ := x4
  obtain ⟨efe, L⟩ := hp
  have efe : fe = lawFeared x1 x3 := efe
  subst efe
  have nb := net_b L.net6
  have nl := net_len L.net L.m6
  have fl := fe_len L
  have m2 := L.m2
  have m6 := L.m6
  refine r_seq (r_setL (ev_lst (eal_nil (α := Wire)))) ?_
  refine r_ifS (et_test (ev_gt (ev_mulI (ev_len (Ev.sqT (ev_fz rfl))) (ev_len (Ev.sqL (ev_bs rfl))) (by
    have l1 := small_log (n := x2.length) (by omega)
    have l2 := small_log (n := (lawFeared x1 x3).length) (by omega)
    show ((x2.length : Nat) : Int).natAbs.log2 + (((lawFeared x1 x3).length : Nat) : Int).natAbs.log2 < 100000000
    rw [Int.natAbs_natCast, Int.natAbs_natCast]
    omega)) ev_int)) (fun _ => r_seqR (r_ret ev_bl)) (fun _ => r_skip ?_)
  refine r_for (P := fun _ => True) (S := fun pre => [.fz x1, .fz x2, .fz x3, .bs (Lst.mk (lawFeared x1 x3)), .ol (pre.filter fun w => !decide (divided x1 (without x2 w) (lawFeared x1 x3) = [])), .any, .any, .any, .any]) (ef_tup (ev_fz rfl)) (by trivial) True.intro (fun pre x => eg_name) (fun pre x post e _ => .inr ⟨True.intro, ?_⟩) fun _ => ?_
  · have wl : (without x2 x).length ≤ 1000 := Nat.le_trans (List.length_filter_le _ _) nb.2
    refine r_seq (r_setL (xs := without x2 x) (EvN.is (ev_lc (f := fun (h : Wire) => h) (ei_seq (Ev.sqT (ev_fz rfl))) (fun x hx => eg_name) (fun x hx => (et_test (ev_neU (α := (Int × Int)) (ev_fz rfl) (ev_fz rfl)))) (fun x hx hp => (ev_fz rfl))) (by rw [List.map_id']; rfl))) ?_
    rw [List.filter_append]
    refine r_if (et_test (ev_neU (α := Lst Lot) (EvN.ev (ev_sp3 (ea_cons (ev_fz rfl) (ea_cons (Ev.sqL (ev_ow rfl)) (ea_cons (ev_bs rfl) ea_nil))) ⟨⟨by omega, by omega, wl⟩, by show (lawFeared x1 x3).length ≤ 1000; omega⟩)) (EvN.ev (ev_lst (eal_nil (α := Lot)))))) (fun h2 => ?_) (fun h2 => ?_)
    · have c : divided x1 (without x2 x) (lawFeared x1 x3) ≠ [] := fun z => by simp [z] at h2
      have e2 : [x].filter (fun w => !decide (divided x1 (without x2 w) (lawFeared x1 x3) = [])) = [x] := by simp [c]
      rw [e2]
      refine r_le (r_app rfl (ev_fz rfl) ?_) (by trivial)
      have l2 := congrArg List.length e
      rw [List.length_append, List.length_cons] at l2
      have : (pre.filter fun w => !decide (divided x1 (without x2 w) (lawFeared x1 x3) = [])).length ≤ pre.length := List.length_filter_le _ _
      unfold LIM
      omega
    · have c : divided x1 (without x2 x) (lawFeared x1 x3) = [] := Classical.byContradiction fun z => by simp [z] at h2
      have e2 : [x].filter (fun w => !decide (divided x1 (without x2 w) (lawFeared x1 x3) = [])) = [] := by simp [c]
      rw [e2, List.append_nil]
      exact r_le r_next (by trivial)
  · have hd := sturdy_iff (fs := x3) L.hw
    refine r_ifS (et_test (ev_eqU (α := Lst Lot) (EvN.ev (ev_sp3 (ea_cons (ev_fz rfl) (ea_cons (Ev.sqT (ev_fz rfl)) (ea_cons (ev_bs rfl) ea_nil))) ⟨⟨by omega, by omega, nb.2⟩, by show (lawFeared x1 x3).length ≤ 1000; omega⟩)) (EvN.ev (ev_lst (eal_nil (α := Lot)))))) (fun h2 => r_seqR ?_) (fun h2 => r_skip (r_seqR ?_))
    · have c : divided x1 x2 (lawFeared x1 x3) = [] := Lst.mk.inj (of_decide_eq_true h2)
      rw [c] at hd
      refine r_ret (ev_eqRepr (α := List Wire) (EvN.ev (ev_sp3 (ea_cons (ev_fz rfl) (ea_cons (ev_fz rfl) (ea_cons (ev_fz rfl) ea_nil))) ⟨L.net6, L.fear6, by rw [hd]; rfl⟩)) (ev_tupL (Ev.sqL (ev_ow rfl))) (needed_due L.net) (shows_wires (m := x1) (L.net.filter _) m6))
    · have c : divided x1 x2 (lawFeared x1 x3) ≠ [] := fun z => by
        have := of_decide_eq_false h2
        exact this (congrArg Lst.mk z)
      rw [decide_eq_false c] at hd
      exact run_try T ⟨L.net6, L.fear6, hd⟩
theorem ca__law_needed (T : Hd.Tx K mg) (c_d : Cal P w K mg base 2 "_law_divided" ["_law_many", "_law_wires", "_law_feared_here"] (sp__law_divided K)) (c_n : Cal P w K mg base 10 "needed_wires" ["many", "net", "fears"] (sp_needed_wires K))
    (c_is_sturdy : Cal P w K mg base 9 "is_sturdy" ["many", "net", "fears"] (sp_is_sturdy K)) (c_bare_sides : Cal P w K mg base 2 "bare_sides" ["many", "net", "lot"] (sp_bare_sides K)) (c_feared_lots : Cal P w K mg base 7 "feared_lots" ["many", "fears"] (sp_feared_lots K)) :
    CalG P w K mg base 11 "_law_needed" ["_law_many", "_law_wires", "_law_fears_here", "_law_feared_here"] (sp__law_needed K) := by
  obtain ⟨fdN, FN, kN, bN⟩ := ok_neededX T c_is_sturdy c_bare_sides c_feared_lots
  obtain ⟨fd, F⟩ := T.f__law_needed
  refine ⟨⟨_, fd, fnG4 F sc__law_needed (by decide) (fun cdv A outer s H E hG hr => ?_), T.g__law_needed, F.kp, F.bindsN (fun _ _ _ _ _ _ us hl => match us, hl with | [_, _, _, _], _ => rfl)⟩⟩
  obtain ⟨t, h, e⟩ := tm__law_needed T c_d c_n FN kN bN (f := He.ga K "_law_needed") cdv A outer s H E hG hr
  exact ⟨t, h, fun x1 x2 x3 x4 hp => by rw [e]; exact run__law_needed T x1 x2 x3 x4 hp⟩
end
end Dy
/-! ## End2 -/
namespace Dy
open PySem L2 PyProof.Rows Mi
section
variable {K : Fg} {mg : Str → Option Value}
theorem fn_law (P : Program) (w : World) (base : Heap) (T : Hd.Tx K mg) {fd : FuncData} (F : FunD K "law" "law" (defArgs Hd.s_law) (defBody Hd.s_law) (defScope Hd.s_law) [] [] (He.ga K "law") fd) : FnG P w K mg base 24 (He.ga K "law") fd ["_law_script"] (sp_law K) := by
  have c_wire_between : Cal P w K mg base 1 "wire_between" ["one", "other"] (sp_wire_between K) := ca_wire_between T
  have c_net_by : Cal P w K mg base 2 "net_by" ["pairs"] (sp_net_by K) := ca_net_by T c_wire_between
  have c_integer_fits : Cal P w K mg base 1 "integer_fits" ["thing"] (sp_integer_fits K) := ca_integer_fits T
  have c_number_fits : Cal P w K mg base 2 "number_fits" ["thing"] (sp_number_fits K) := ca_number_fits T c_integer_fits
  have c_house_fits : Cal P w K mg base 3 "house_fits" ["many", "thing"] (sp_house_fits K) := ca_house_fits T c_number_fits
  have c_pairs_fit : Cal P w K mg base 4 "pairs_fit" ["many", "things"] (sp_pairs_fit K) := ca_pairs_fit T c_house_fits
  have c_a_want : Cal P w K mg base 1 "a_want" ["good", "word"] (sp_a_want K) := ca_a_want T
  have c_many_fits : Cal P w K mg base 2 "many_fits" ["thing"] (sp_many_fits K) := ca_many_fits T c_integer_fits
  have c_Net___init__ : FnR P w K mg base CX0 8 (nM K "__init__") (sp_Net___init__ K) := ca_Net___init__ T c_net_by c_pairs_fit c_a_want c_many_fits
  have c_Net___add__ : FnR P w K mg base CX0 12 (nM K "__add__") (sp_Net___add__ K) := ca_Net___add__ T c_Net___init__ c_a_want
  have c__law_object : Cal P w K mg base 16 "_law_object" ["_law_many", "_law_wires"] (sp__law_object K) := ca__law_object T c_Net___init__ c_Net___add__
  have c_Net___eq__ : FnR P w K mg base CX0 4 (nM K "__eq__") (sp_Net___eq__ K) := ca_Net___eq__ T
  have c__law_joined : Cal P w K mg base 1 "_law_joined" ["_law_wires", "_law_lot", "_law_house"] (sp__law_joined K) := ca__law_joined T
  have c__law_others : Cal P w K mg base 1 "_law_others" ["_law_many", "_law_lot"] (sp__law_others K) := ca__law_others T
  have c__law_divided : Cal P w K mg base 2 "_law_divided" ["_law_many", "_law_wires", "_law_feared_here"] (sp__law_divided K) := ca__law_divided T c__law_joined c__law_others
  have c_others_in : Cal P w K mg base 1 "others_in" ["many", "lot"] (sp_others_in K) := ca_others_in T
  have c_bare_sides : Cal P w K mg base 2 "bare_sides" ["many", "net", "lot"] (sp_bare_sides K) := ca_bare_sides T c_others_in
  have c_lots_in : Cal P w K mg base 1 "lots_in" ["many"] (sp_lots_in K) := ca_lots_in T
  have c_lot_within : Cal P w K mg base 1 "lot_within" ["one", "other"] (sp_lot_within K) := ca_lot_within T
  have c_feared_in : Cal P w K mg base 2 "feared_in" ["fears", "lot"] (sp_feared_in K) := ca_feared_in T c_lot_within
  have c_lot_fits : Cal P w K mg base 4 "lot_fits" ["many", "thing"] (sp_lot_fits K) := ca_lot_fits T c_house_fits
  have c_is_lots : Cal P w K mg base 5 "is_lots" ["many", "thing"] (sp_is_lots K) := ca_is_lots T c_lot_fits
  have c_fears_fit : Cal P w K mg base 6 "fears_fit" ["many", "thing"] (sp_fears_fit K) := ca_fears_fit T c_lot_within c_is_lots
  have c_feared_lots : Cal P w K mg base 7 "feared_lots" ["many", "fears"] (sp_feared_lots K) := ca_feared_lots T c_lots_in c_feared_in c_fears_fit c_a_want c_many_fits
  have c_wire_fits : Cal P w K mg base 4 "wire_fits" ["many", "thing"] (sp_wire_fits K) := ca_wire_fits T c_house_fits
  have c_net_fits : Cal P w K mg base 5 "net_fits" ["many", "thing"] (sp_net_fits K) := ca_net_fits T c_wire_fits
  have c_dividing_lots : Cal P w K mg base 8 "dividing_lots" ["many", "net", "fears"] (sp_dividing_lots K) := ca_dividing_lots T c_feared_lots c_bare_sides c_fears_fit c_a_want c_net_fits c_many_fits
  have c_is_sturdy : Cal P w K mg base 9 "is_sturdy" ["many", "net", "fears"] (sp_is_sturdy K) := ca_is_sturdy T c_dividing_lots
  have c_needed_wires : Cal P w K mg base 10 "needed_wires" ["many", "net", "fears"] (sp_needed_wires K) := ca_needed_wires T c_bare_sides c_feared_lots c_is_sturdy c_a_want
  have c__law_needed : CalG P w K mg base 11 "_law_needed" ["_law_many", "_law_wires", "_law_fears_here", "_law_feared_here"] (sp__law_needed K) := ca__law_needed T c__law_divided c_needed_wires c_is_sturdy c_bare_sides c_feared_lots
  have c_is_way : Cal P w K mg base 6 "is_way" ["many", "net", "thing"] (sp_is_way K) := ca_is_way T c_wire_between c_house_fits c_net_fits c_a_want c_many_fits
  have c__law_is_house : Cal P w K mg base 1 "_law_is_house" ["_law_thing", "_law_many"] (sp__law_is_house K) := ca__law_is_house T
  have c__law_long : Cal P w K mg base 1 "_law_long" ["_law_wires", "_law_lot", "_law_one", "_law_other"] (sp__law_long K) := ca__law_long T
  have c__law_way_fits : Cal P w K mg base 2 "_law_way_fits" ["_law_wires", "_law_lot", "_law_one", "_law_other", "_law_way", "_law_least"] (sp__law_way_fits K) := ca__law_way_fits T c__law_is_house c__law_long
  have c_bare_wired : Cal P w K mg base 1 "bare_wired" ["net", "house"] (sp_bare_wired K) := ca_bare_wired T
  have c_bare_way : Cal P w K mg base 2 "bare_way" ["net", "lot", "one", "other"] (sp_bare_way K) := ca_bare_way T c_bare_wired
  have c_two_fit : Cal P w K mg base 4 "two_fit" ["many", "one", "other"] (sp_two_fit K) := ca_two_fit T c_house_fits
  have c_way_past : Cal P w K mg base 6 "way_past" ["many", "net", "lot", "one", "other"] (sp_way_past K) := ca_way_past T c_bare_way c_two_fit c_a_want c_house_fits c_lot_fits c_net_fits c_many_fits
  have c_Net_past : FnR P w K mg base CX0 10 (nM K "past") (sp_Net_past K) := ca_Net_past T c_way_past
  have c_bare_divides : Cal P w K mg base 3 "bare_divides" ["many", "net", "lot", "one", "other"] (sp_bare_divides K) := ca_bare_divides T c_bare_sides
  have c_divides : Cal P w K mg base 6 "divides" ["many", "net", "lot", "one", "other"] (sp_divides K) := ca_divides T c_bare_divides c_two_fit c_a_want c_house_fits c_lot_fits c_net_fits c_many_fits
  have c__law_past : CalG P w K mg base 14 "_law_past" ["_law_many", "_law_wires", "_law_lot", "_law_one", "_law_other", "_law_net_here"] (sp__law_past K) := ca__law_past T c_is_way c__law_way_fits c_Net_past c_way_past c_divides c__law_joined
  have c__law_within : Cal P w K mg base 1 "_law_within" ["_law_lot", "_law_wide"] (sp__law_within K) := ca__law_within T
  have c_greatest_in : Cal P w K mg base 2 "greatest_in" ["lots"] (sp_greatest_in K) := ca_greatest_in T c_lot_within
  have c_blind_in : Cal P w K mg base 3 "blind_in" ["fears", "lot"] (sp_blind_in K) := ca_blind_in T c_greatest_in c_lot_within
  have c_sizes_fit : Cal P w K mg base 3 "sizes_fit" ["thing"] (sp_sizes_fit K) := ca_sizes_fit T c_many_fits
  have c_ground_fits : Cal P w K mg base 7 "ground_fits" ["thing"] (sp_ground_fits K) := ca_ground_fits T c_fears_fit c_sizes_fit
  have c_calmed : Cal P w K mg base 8 "calmed" ["ground", "lot"] (sp_calmed K) := ca_calmed T c_blind_in c_lot_fits c_a_want c_ground_fits
  have c__law_lots : Cal P w K mg base 1 "_law_lots" ["_law_many"] (sp__law_lots K) := ca__law_lots T
  have c_feared_too : Cal P w K mg base 8 "feared_too" ["ground", "lot"] (sp_feared_too K) := ca_feared_too T c_greatest_in c_lot_fits c_a_want c_ground_fits
  have c__law_grounds : CalG P w K mg base 10 "_law_grounds" ["_law_many", "_law_wires", "_law_fears_here", "_law_lots_here", "_law_lot"] (sp__law_grounds K) := ca__law_grounds T c_is_sturdy c_dividing_lots c__law_within c_calmed c__law_divided c__law_lots c_feared_too
  have c_Net___len__ : FnR P w K mg base CX0 4 (nM K "__len__") (sp_Net___len__ K) := ca_Net___len__ T
  have c_mesh_of : Cal P w K mg base 3 "mesh_of" ["many"] (sp_mesh_of K) := ca_mesh_of T c_many_fits c_a_want
  have c_Net___invert__ : FnR P w K mg base CX0 16 (nM K "__invert__") (sp_Net___invert__ K) := ca_Net___invert__ T c_Net___init__ c_mesh_of
  have c_Net___iter__ : FnR P w K mg base CX0 4 (nM K "__iter__") (sp_Net___iter__ K) := ca_Net___iter__ T
  have c__law_mesh : Cal P w K mg base 2 "_law_mesh" ["_law_many"] (sp__law_mesh K) := ca__law_mesh T c__law_lots
  have c_wired_to : Cal P w K mg base 6 "wired_to" ["many", "net", "house"] (sp_wired_to K) := ca_wired_to T c_bare_wired c_house_fits c_a_want c_net_fits c_many_fits
  have c_Net___getitem__ : FnR P w K mg base CX0 10 (nM K "__getitem__") (sp_Net___getitem__ K) := ca_Net___getitem__ T c_wired_to
  have c_sides_of : Cal P w K mg base 6 "sides_of" ["many", "net", "lot"] (sp_sides_of K) := ca_sides_of T c_bare_sides c_lot_fits c_a_want c_net_fits c_many_fits
  have c_Net___call__ : FnR P w K mg base CX0 10 (nM K "__call__") (sp_Net___call__ K) := ca_Net___call__ T c_sides_of
  have c__law_sides : CalG P w K mg base 20 "_law_sides" ["_law_many", "_law_wires", "_law_lot", "_law_net_here"] (sp__law_sides K) := ca__law_sides T c_Net___len__ c_Net___invert__ c_Net___iter__ c__law_mesh c_Net___getitem__ c_wired_to c_Net___call__ c_sides_of c__law_others c__law_joined
  have c__law_draw : Cal P w K mg base 1 "_law_draw" ["_law_well_here", "_law_many"] (sp__law_draw K) := ca__law_draw T
  have c_bare_between : Cal P w K mg base 3 "bare_between" ["fears", "one", "other"] (sp_bare_between K) := ca_bare_between T c_greatest_in
  have c_between_lots : Cal P w K mg base 7 "between_lots" ["many", "fears", "one", "other"] (sp_between_lots K) := ca_between_lots T c_bare_between c_two_fit c_a_want c_house_fits c_fears_fit c_many_fits
  have c_secret_paper : Cal P w K mg base 8 "secret_paper" ["many", "net", "fears", "one", "other"] (sp_secret_paper K) := ca_secret_paper T c_bare_sides c_bare_way c_between_lots c_net_fits c_a_want c_many_fits
  have c_can_send : Cal P w K mg base 9 "can_send" ["many", "net", "fears", "one", "other"] (sp_can_send K) := ca_can_send T c_secret_paper
  have c_left_in : Cal P w K mg base 3 "left_in" ["ground", "house"] (sp_left_in K) := ca_left_in T c_greatest_in
  have c_left_out : Cal P w K mg base 8 "left_out" ["ground", "house"] (sp_left_out K) := ca_left_out T c_left_in c_house_fits c_a_want c_ground_fits
  have c__law_left : Cal P w K mg base 9 "_law_left" ["_law_many", "_law_fears_here", "_law_one", "_law_other"] (sp__law_left K) := ca__law_left T c_left_out
  have c__law_anew : Cal P w K mg base 1 "_law_anew" ["_law_lots_here", "_law_one", "_law_other"] (sp__law_anew K) := ca__law_anew T
  have c__law_greatest : Cal P w K mg base 2 "_law_greatest" ["_law_lots_here"] (sp__law_greatest K) := ca__law_greatest T c__law_within
  have c__law_between : Cal P w K mg base 3 "_law_between" ["_law_feared_here", "_law_one", "_law_other"] (sp__law_between K) := ca__law_between T c__law_greatest
  have c__law_drawn_pair : CalG P w K mg base 10 "_law_drawn_pair" ["_law_many", "_law_wires", "_law_fears_here", "_law_feared_here", "_law_one", "_law_other"] (sp__law_drawn_pair K) := ca__law_drawn_pair T c_can_send c_sides_of c__law_left c__law_anew c__law_between
  have c__law_pair : CalG P w K mg base 10 "_law_pair" ["_law_many", "_law_wires", "_law_fears_here", "_law_feared_here", "_law_one", "_law_other"] (sp__law_pair K) := ca__law_pair T c_can_send c__law_joined c_between_lots c__law_between
  have c__law_thin : Cal P w K mg base 3 "_law_thin" ["_law_well_here", "_law_many", "_law_feared_here"] (sp__law_thin K) := ca__law_thin T c__law_draw c__law_divided c__law_mesh
  have c__law_net : Cal P w K mg base 3 "_law_net" ["_law_well_here", "_law_many"] (sp__law_net K) := ca__law_net T c__law_mesh c__law_draw
  have c__law_feared : Cal P w K mg base 2 "_law_feared" ["_law_many", "_law_fears_here"] (sp__law_feared K) := ca__law_feared T c__law_lots c__law_within
  have c__law_fears : Cal P w K mg base 3 "_law_fears" ["_law_well_here", "_law_many"] (sp__law_fears K) := ca__law_fears T c__law_greatest c__law_draw c__law_lots c__law_others
  have c__law_well : Cal P w K mg base 1 "_law_well" ["_law_script"] (sp__law_well K) := ca__law_well T
  refine fnG1 F sc_law (by decide) fun cdv A outer s H E hG hr => ?_
  obtain ⟨t, h, e⟩ := tm_law T c__law_object c_Net___eq__ c__law_needed c__law_past c__law_grounds c__law_sides c__law_lots c__law_draw c__law_drawn_pair c__law_pair c__law_mesh c_is_sturdy c_dividing_lots c__law_divided c__law_thin c__law_net c__law_feared c__law_fears c__law_well (f := He.ga K "law") cdv A outer s H E hG hr
  exact ⟨t, h, fun x hp => by rw [e]; exact run_law T x hp⟩
end
end Dy
open PySem PySem.W
        PySem.Calls PyProof.Rows
theorem PySem.Challenge.cw_closereckoned_k81_whole_sides_beside_bet_holds : PySem.Challenge.rw_closereckoned_k81_whole_sides_beside_bet.Holds := by
  w_on; o_law
  refine HandSHeadRun.head_any (r := Hd.R) (q := view Hd.R.prog [86]) (H := Hd.hk) (ob := Hd.ob) (M := 20000) (loose := Hd.names) (d := HandSHeadRun.topDef Hd.R.prog 86) (kwd := []) Hd.ob_eq
    (by kernel_rfl) (fun s => by kernel_rfl) Hd.run (by kernel_rfl) (by kernel_rfl) (by kernel_rfl) (by rfl) (by first | assumption | decide +kernel) (by decide +kernel) ⟨rfl, rfl, rfl, rfl, rfl, by decide +kernel⟩ ?hw ?hc
  case hw => w_witness2
  case hc =>
    refine Att.attach_callB (l := PySem.Challenge.rw_closereckoned_k81_whole_sides_beside_bet) (n := 63) rfl (by kernel_rfl) fun w s0 s1 mg mb fa o pm cd doc a vs ns G Y ho hd hcd hmg0 hobj hints hlen hbits hg => ?_
    obtain ⟨K, KX, c, ex⟩ := Y
    have hmg : mg ("law" : PySem.Str)
            = some (.ref fa) := by
      have e : (HandSHeadRun.topDef Hd.R.prog 86).name = ("law" : PySem.Str) := by kernel_rfl
      rw [← e]
      exact hmg0
    have T : Hd.Tx K mg := ⟨_, KX, G.T.g, c, ex⟩
    obtain ⟨fd, F⟩ := T.f_law
    have eq := T.g_law.symm.trans hmg
    cases eq
    refine Dy.call_law (k := 24) (x := "_law_script") (sp := Dy.sp_law K) KX G.T.g G.T.b G.T.builtins G.T.nolimit hg hobj hints (Nat.le_trans hlen (by decide)) ⟨rfl, by decide, by decide⟩ (fun base _ _ => Dy.fn_law _ w base T F) (fun s u => L2.FunD.bindsA (ps := ["_law_script"]) F (fun _ _ _ _ _ _ us hl => match us, hl with | [_], _ => rfl) s [u] rfl) fun H hS => ?_
    exact ⟨true, ⟨Dy.Scr.mk ns, ⟨_, [], rfl, ⟨a, rfl, hS, Nat.le_trans hlen (by decide)⟩, rfl⟩, ⟨hlen, fun z hz => Dy.bits_log (hbits z hz)⟩, rfl⟩, fun v H' _ r _ => r⟩
