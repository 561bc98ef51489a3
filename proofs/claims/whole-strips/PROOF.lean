import PyProof.Rows.All
import Wide.All
import OpenK.AllK
import Wide.FinOn
import KE.KStateDown
import Lean
import HandS.ForMost
import HandS.ForExc
import HandS.More
import HandS.Conv
import HandS.IsInst
import HandS.Zip
import HandS.Wide
import HandS.WideBits
import HandS.TryElse
import HandS.Defaults
import HandS.HeadHook1
import HandS.HeadHook2
import HandS.HeadHook3
import HandS.HeadHook4
import HandS.HeadEnd
import HandS.HeadWalk
import HandS.Evl
import HandS.Steps
import HandS.Head0
import HandS.Head1
import HandS.Head2
import KE.KBits
import KE.BitLaws
import PySem.Challenge.RW_rowbreadth_k42_whole_strips_at_any_bread
section
set_option Elab.async false
set_option linter.all false
set_option maxRecDepth 100000
set_option maxHeartbeats 4000000
namespace Rb
open PySem PySem.Spec PyProof.Rows L2
def top (i : Nat) : Stmt := PySem.Challenge.pw_rowbreadth_k42_whole_strips_at_any_bread.main.body.getD i (.Pass ⟨0, 0, 0, 0⟩)

abbrev s_Boxes_init : Stmt := inClass (top 1) 0
abbrev s_Boxes_lay : Stmt := inClass (top 1) 1
abbrev s_Boxes_number_at : Stmt := inClass (top 1) 2
abbrev s_Feed_init : Stmt := inClass (top 3) 0
abbrev s_Feed_taken : Stmt := inClass (top 3) 1
abbrev s_start_of : Stmt := top 5
abbrev s_Strip_init : Stmt := inClass (top 7) 0
abbrev s_Bench_init : Stmt := inClass (top 8) 0
abbrev s_begin_strip : Stmt := top 9
abbrev s_lane_active : Stmt := top 10
abbrev s_active_lanes : Stmt := top 11
abbrev s_seat_number : Stmt := top 12
abbrev s_read_cell : Stmt := top 13
abbrev s_write_cell : Stmt := top 14
abbrev s_slot_address : Stmt := top 15
abbrev s_read_slot : Stmt := top 16
abbrev s_write_slot : Stmt := top 17
abbrev s_kept : Stmt := top 24
abbrev s_divided : Stmt := top 25
abbrev s_by_bits : Stmt := top 26
abbrev s_done : Stmt := top 27
abbrev s_free : Stmt := top 28
abbrev s_joined : Stmt := top 29
abbrev s_cut_join : Stmt := top 31
abbrev s_doubled : Stmt := top 32
abbrev s_lay_mask : Stmt := top 34
abbrev s_reach_lanes : Stmt := top 35
abbrev s_trim_strip : Stmt := top 36
abbrev s_stop_refusal : Stmt := top 37
abbrev s_save_lanes : Stmt := top 38
abbrev s_store_lanes : Stmt := top 39
abbrev s_put_lanes : Stmt := top 40
abbrev s_fold_lanes : Stmt := top 41
abbrev s_runs_in_order : Stmt := top 42
abbrev s_runs_at_once : Stmt := top 43
abbrev s_running_lanes : Stmt := top 44
abbrev s_any_lanes : Stmt := top 45
abbrev s_spread_read : Stmt := top 47
abbrev s_shift_got : Stmt := top 48
abbrev s_gather_got : Stmt := top 49
abbrev s_op_got : Stmt := top 50
abbrev s_pick_got : Stmt := top 51
abbrev s_lane_got : Stmt := top 52
abbrev s_lay_seat : Stmt := top 53
abbrev s_Course_init : Stmt := inClass (top 55) 0
abbrev s_begin_round : Stmt := top 56
abbrev s_next_strip : Stmt := top 57
abbrev s_end_turn : Stmt := top 58
abbrev s_play_effect : Stmt := top 59
abbrev s_play_step : Stmt := top 60
abbrev s_ran : Stmt := top 61
abbrev s__law_cell_at : Stmt := top 63
abbrev s__law_some : Stmt := top 64
abbrev s__law_number : Stmt := top 65
abbrev s__law_alike : Stmt := top 66
abbrev s__law_lanes : Stmt := top 67
abbrev s__law_group : Stmt := top 68
abbrev s__law_dust : Stmt := top 69
abbrev s__law_ran : Stmt := top 70
abbrev s__law_kept : Stmt := top 71
abbrev s__law_joined : Stmt := top 72
abbrev s__law_signed : Stmt := top 73
abbrev s__law_step : Stmt := top 74
abbrev s__law_read : Stmt := top 75
abbrev s__law_active : Stmt := top 76
abbrev s__law_reads_laid : Stmt := top 77
abbrev s__law_got : Stmt := top 78
abbrev s__law_played : Stmt := top 79
abbrev s__law_faults : Stmt := top 80
abbrev s__law_due : Stmt := top 81
abbrev s__law_effects : Stmt := top 82
abbrev s__law_turned : Stmt := top 83
abbrev s__law_parts : Stmt := top 84
abbrev s__law_steps : Stmt := top 85
abbrev s__law_told : Stmt := top 86
abbrev s_law : Stmt := top 87
def d_Boxes_init : He.DefD := ⟨("Boxes", some "__init__"), "__init__", "Boxes.__init__", defArgs s_Boxes_init, defBody s_Boxes_init, defScope s_Boxes_init, [], []⟩
def d_Boxes_lay : He.DefD := ⟨("Boxes", some "lay"), "lay", "Boxes.lay", defArgs s_Boxes_lay, defBody s_Boxes_lay, defScope s_Boxes_lay, [], []⟩
def d_Boxes_number_at : He.DefD := ⟨("Boxes", some "number_at"), "number_at", "Boxes.number_at", defArgs s_Boxes_number_at, defBody s_Boxes_number_at, defScope s_Boxes_number_at, [], []⟩
def d_Feed_init : He.DefD := ⟨("Feed", some "__init__"), "__init__", "Feed.__init__", defArgs s_Feed_init, defBody s_Feed_init, defScope s_Feed_init, [], []⟩
def d_Feed_taken : He.DefD := ⟨("Feed", some "taken"), "taken", "Feed.taken", defArgs s_Feed_taken, defBody s_Feed_taken, defScope s_Feed_taken, [], []⟩
def d_start_of : He.DefD := ⟨("start_of", none), "start_of", "start_of", defArgs s_start_of, defBody s_start_of, defScope s_start_of, [], []⟩
def d_Strip_init : He.DefD := ⟨("Strip", some "__init__"), "__init__", "Strip.__init__", defArgs s_Strip_init, defBody s_Strip_init, defScope s_Strip_init, [], []⟩
def d_Bench_init : He.DefD := ⟨("Bench", some "__init__"), "__init__", "Bench.__init__", defArgs s_Bench_init, defBody s_Bench_init, defScope s_Bench_init, [], []⟩
def d_begin_strip : He.DefD := ⟨("begin_strip", none), "begin_strip", "begin_strip", defArgs s_begin_strip, defBody s_begin_strip, defScope s_begin_strip, [], []⟩
def d_lane_active : He.DefD := ⟨("lane_active", none), "lane_active", "lane_active", defArgs s_lane_active, defBody s_lane_active, defScope s_lane_active, [], []⟩
def d_active_lanes : He.DefD := ⟨("active_lanes", none), "active_lanes", "active_lanes", defArgs s_active_lanes, defBody s_active_lanes, defScope s_active_lanes, [], []⟩
def d_seat_number : He.DefD := ⟨("seat_number", none), "seat_number", "seat_number", defArgs s_seat_number, defBody s_seat_number, defScope s_seat_number, [], []⟩
def d_read_cell : He.DefD := ⟨("read_cell", none), "read_cell", "read_cell", defArgs s_read_cell, defBody s_read_cell, defScope s_read_cell, [], []⟩
def d_write_cell : He.DefD := ⟨("write_cell", none), "write_cell", "write_cell", defArgs s_write_cell, defBody s_write_cell, defScope s_write_cell, [], []⟩
def d_slot_address : He.DefD := ⟨("slot_address", none), "slot_address", "slot_address", defArgs s_slot_address, defBody s_slot_address, defScope s_slot_address, [], []⟩
def d_read_slot : He.DefD := ⟨("read_slot", none), "read_slot", "read_slot", defArgs s_read_slot, defBody s_read_slot, defScope s_read_slot, [], []⟩
def d_write_slot : He.DefD := ⟨("write_slot", none), "write_slot", "write_slot", defArgs s_write_slot, defBody s_write_slot, defScope s_write_slot, [], []⟩
def d_kept : He.DefD := ⟨("kept", none), "kept", "kept", defArgs s_kept, defBody s_kept, defScope s_kept, [], []⟩
def d_divided : He.DefD := ⟨("divided", none), "divided", "divided", defArgs s_divided, defBody s_divided, defScope s_divided, [], []⟩
def d_by_bits : He.DefD := ⟨("by_bits", none), "by_bits", "by_bits", defArgs s_by_bits, defBody s_by_bits, defScope s_by_bits, [], []⟩
def d_done : He.DefD := ⟨("done", none), "done", "done", defArgs s_done, defBody s_done, defScope s_done, [], []⟩
def d_free : He.DefD := ⟨("free", none), "free", "free", defArgs s_free, defBody s_free, defScope s_free, [], []⟩
def d_joined : He.DefD := ⟨("joined", none), "joined", "joined", defArgs s_joined, defBody s_joined, defScope s_joined, [], []⟩
def d_cut_join : He.DefD := ⟨("cut_join", none), "cut_join", "cut_join", defArgs s_cut_join, defBody s_cut_join, defScope s_cut_join, [], []⟩
def d_doubled : He.DefD := ⟨("doubled", none), "doubled", "doubled", defArgs s_doubled, defBody s_doubled, defScope s_doubled, [], []⟩
def d_lay_mask : He.DefD := ⟨("lay_mask", none), "lay_mask", "lay_mask", defArgs s_lay_mask, defBody s_lay_mask, defScope s_lay_mask, [], []⟩
def d_reach_lanes : He.DefD := ⟨("reach_lanes", none), "reach_lanes", "reach_lanes", defArgs s_reach_lanes, defBody s_reach_lanes, defScope s_reach_lanes, [], []⟩
def d_trim_strip : He.DefD := ⟨("trim_strip", none), "trim_strip", "trim_strip", defArgs s_trim_strip, defBody s_trim_strip, defScope s_trim_strip, [], []⟩
def d_stop_refusal : He.DefD := ⟨("stop_refusal", none), "stop_refusal", "stop_refusal", defArgs s_stop_refusal, defBody s_stop_refusal, defScope s_stop_refusal, [], []⟩
def d_save_lanes : He.DefD := ⟨("save_lanes", none), "save_lanes", "save_lanes", defArgs s_save_lanes, defBody s_save_lanes, defScope s_save_lanes, [], []⟩
def d_store_lanes : He.DefD := ⟨("store_lanes", none), "store_lanes", "store_lanes", defArgs s_store_lanes, defBody s_store_lanes, defScope s_store_lanes, [], []⟩
def d_put_lanes : He.DefD := ⟨("put_lanes", none), "put_lanes", "put_lanes", defArgs s_put_lanes, defBody s_put_lanes, defScope s_put_lanes, [], []⟩
def d_fold_lanes : He.DefD := ⟨("fold_lanes", none), "fold_lanes", "fold_lanes", defArgs s_fold_lanes, defBody s_fold_lanes, defScope s_fold_lanes, [], []⟩
def d_runs_in_order : He.DefD := ⟨("runs_in_order", none), "runs_in_order", "runs_in_order", defArgs s_runs_in_order, defBody s_runs_in_order, defScope s_runs_in_order, [], []⟩
def d_runs_at_once : He.DefD := ⟨("runs_at_once", none), "runs_at_once", "runs_at_once", defArgs s_runs_at_once, defBody s_runs_at_once, defScope s_runs_at_once, [], []⟩
def d_running_lanes : He.DefD := ⟨("running_lanes", none), "running_lanes", "running_lanes", defArgs s_running_lanes, defBody s_running_lanes, defScope s_running_lanes, [], []⟩
def d_any_lanes : He.DefD := ⟨("any_lanes", none), "any_lanes", "any_lanes", defArgs s_any_lanes, defBody s_any_lanes, defScope s_any_lanes, [], []⟩
def d_spread_read : He.DefD := ⟨("spread_read", none), "spread_read", "spread_read", defArgs s_spread_read, defBody s_spread_read, defScope s_spread_read, [], []⟩
def d_shift_got : He.DefD := ⟨("shift_got", none), "shift_got", "shift_got", defArgs s_shift_got, defBody s_shift_got, defScope s_shift_got, [], []⟩
def d_gather_got : He.DefD := ⟨("gather_got", none), "gather_got", "gather_got", defArgs s_gather_got, defBody s_gather_got, defScope s_gather_got, [], []⟩
def d_op_got : He.DefD := ⟨("op_got", none), "op_got", "op_got", defArgs s_op_got, defBody s_op_got, defScope s_op_got, [], []⟩
def d_pick_got : He.DefD := ⟨("pick_got", none), "pick_got", "pick_got", defArgs s_pick_got, defBody s_pick_got, defScope s_pick_got, [], []⟩
def d_lane_got : He.DefD := ⟨("lane_got", none), "lane_got", "lane_got", defArgs s_lane_got, defBody s_lane_got, defScope s_lane_got, [], []⟩
def d_lay_seat : He.DefD := ⟨("lay_seat", none), "lay_seat", "lay_seat", defArgs s_lay_seat, defBody s_lay_seat, defScope s_lay_seat, [], []⟩
def d_Course_init : He.DefD := ⟨("Course", some "__init__"), "__init__", "Course.__init__", defArgs s_Course_init, defBody s_Course_init, defScope s_Course_init, [], []⟩
def d_begin_round : He.DefD := ⟨("begin_round", none), "begin_round", "begin_round", defArgs s_begin_round, defBody s_begin_round, defScope s_begin_round, [], []⟩
def d_next_strip : He.DefD := ⟨("next_strip", none), "next_strip", "next_strip", defArgs s_next_strip, defBody s_next_strip, defScope s_next_strip, [], []⟩
def d_end_turn : He.DefD := ⟨("end_turn", none), "end_turn", "end_turn", defArgs s_end_turn, defBody s_end_turn, defScope s_end_turn, [], []⟩
def d_play_effect : He.DefD := ⟨("play_effect", none), "play_effect", "play_effect", defArgs s_play_effect, defBody s_play_effect, defScope s_play_effect, [], []⟩
def d_play_step : He.DefD := ⟨("play_step", none), "play_step", "play_step", defArgs s_play_step, defBody s_play_step, defScope s_play_step, [], []⟩
def d_ran : He.DefD := ⟨("ran", none), "ran", "ran", defArgs s_ran, defBody s_ran, defScope s_ran, [], []⟩
def d__law_cell_at : He.DefD := ⟨("_law_cell_at", none), "_law_cell_at", "_law_cell_at", defArgs s__law_cell_at, defBody s__law_cell_at, defScope s__law_cell_at, [], []⟩
def d__law_some : He.DefD := ⟨("_law_some", none), "_law_some", "_law_some", defArgs s__law_some, defBody s__law_some, defScope s__law_some, [], []⟩
def d__law_number : He.DefD := ⟨("_law_number", none), "_law_number", "_law_number", defArgs s__law_number, defBody s__law_number, defScope s__law_number, [], []⟩
def d__law_alike : He.DefD := ⟨("_law_alike", none), "_law_alike", "_law_alike", defArgs s__law_alike, defBody s__law_alike, defScope s__law_alike, [], []⟩
def d__law_lanes : He.DefD := ⟨("_law_lanes", none), "_law_lanes", "_law_lanes", defArgs s__law_lanes, defBody s__law_lanes, defScope s__law_lanes, [], []⟩
def d__law_group : He.DefD := ⟨("_law_group", none), "_law_group", "_law_group", defArgs s__law_group, defBody s__law_group, defScope s__law_group, [], []⟩
def d__law_dust : He.DefD := ⟨("_law_dust", none), "_law_dust", "_law_dust", defArgs s__law_dust, defBody s__law_dust, defScope s__law_dust, [], []⟩
def d__law_ran : He.DefD := ⟨("_law_ran", none), "_law_ran", "_law_ran", defArgs s__law_ran, defBody s__law_ran, defScope s__law_ran, [], []⟩
def d__law_kept : He.DefD := ⟨("_law_kept", none), "_law_kept", "_law_kept", defArgs s__law_kept, defBody s__law_kept, defScope s__law_kept, [], []⟩
def d__law_joined : He.DefD := ⟨("_law_joined", none), "_law_joined", "_law_joined", defArgs s__law_joined, defBody s__law_joined, defScope s__law_joined, [], []⟩
def d__law_signed : He.DefD := ⟨("_law_signed", none), "_law_signed", "_law_signed", defArgs s__law_signed, defBody s__law_signed, defScope s__law_signed, [], []⟩
def d__law_step : He.DefD := ⟨("_law_step", none), "_law_step", "_law_step", defArgs s__law_step, defBody s__law_step, defScope s__law_step, [], []⟩
def d__law_read : He.DefD := ⟨("_law_read", none), "_law_read", "_law_read", defArgs s__law_read, defBody s__law_read, defScope s__law_read, [], []⟩
def d__law_active : He.DefD := ⟨("_law_active", none), "_law_active", "_law_active", defArgs s__law_active, defBody s__law_active, defScope s__law_active, [], []⟩
def d__law_reads_laid : He.DefD := ⟨("_law_reads_laid", none), "_law_reads_laid", "_law_reads_laid", defArgs s__law_reads_laid, defBody s__law_reads_laid, defScope s__law_reads_laid, [], []⟩
def d__law_got : He.DefD := ⟨("_law_got", none), "_law_got", "_law_got", defArgs s__law_got, defBody s__law_got, defScope s__law_got, [], []⟩
def d__law_played : He.DefD := ⟨("_law_played", none), "_law_played", "_law_played", defArgs s__law_played, defBody s__law_played, defScope s__law_played, [], []⟩
def d__law_faults : He.DefD := ⟨("_law_faults", none), "_law_faults", "_law_faults", defArgs s__law_faults, defBody s__law_faults, defScope s__law_faults, [], []⟩
def d__law_due : He.DefD := ⟨("_law_due", none), "_law_due", "_law_due", defArgs s__law_due, defBody s__law_due, defScope s__law_due, [], []⟩
def d__law_effects : He.DefD := ⟨("_law_effects", none), "_law_effects", "_law_effects", defArgs s__law_effects, defBody s__law_effects, defScope s__law_effects, [], []⟩
def d__law_turned : He.DefD := ⟨("_law_turned", none), "_law_turned", "_law_turned", defArgs s__law_turned, defBody s__law_turned, defScope s__law_turned, [], []⟩
def d__law_parts : He.DefD := ⟨("_law_parts", none), "_law_parts", "_law_parts", defArgs s__law_parts, defBody s__law_parts, defScope s__law_parts, [], []⟩
def d__law_steps : He.DefD := ⟨("_law_steps", none), "_law_steps", "_law_steps", defArgs s__law_steps, defBody s__law_steps, defScope s__law_steps, [], []⟩
def d__law_told : He.DefD := ⟨("_law_told", none), "_law_told", "_law_told", defArgs s__law_told, defBody s__law_told, defScope s__law_told, [], []⟩
def d_law : He.DefD := ⟨("law", none), "law", "law", defArgs s_law, defBody s_law, defScope s_law, [], []⟩
def fnL : List He.DefD := [d_Boxes_init, d_Boxes_lay, d_Boxes_number_at, d_Feed_init, d_Feed_taken, d_start_of, d_Strip_init, d_Bench_init, d_begin_strip, d_lane_active, d_active_lanes, d_seat_number, d_read_cell, d_write_cell, d_slot_address, d_read_slot, d_write_slot, d_kept, d_divided, d_by_bits, d_done, d_free, d_joined, d_cut_join, d_doubled, d_lay_mask, d_reach_lanes, d_trim_strip, d_stop_refusal, d_save_lanes, d_store_lanes, d_put_lanes, d_fold_lanes, d_runs_in_order, d_runs_at_once, d_running_lanes, d_any_lanes, d_spread_read, d_shift_got, d_gather_got, d_op_got, d_pick_got, d_lane_got, d_lay_seat, d_Course_init, d_begin_round, d_next_strip, d_end_turn, d_play_effect, d_play_step, d_ran, d__law_cell_at, d__law_some, d__law_number, d__law_alike, d__law_lanes, d__law_group, d__law_dust, d__law_ran, d__law_kept, d__law_joined, d__law_signed, d__law_step, d__law_read, d__law_active, d__law_reads_laid, d__law_got, d__law_played, d__law_faults, d__law_due, d__law_effects, d__law_turned, d__law_parts, d__law_steps, d__law_told, d_law]
def faL0 : List He.Fa := [.glo "start_of", .glo "begin_strip", .glo "lane_active", .glo "active_lanes", .glo "seat_number", .glo "read_cell", .glo "write_cell", .glo "slot_address", .glo "read_slot", .glo "write_slot", .glo "kept", .glo "divided", .glo "by_bits", .glo "done", .glo "free", .glo "joined", .glo "cut_join", .glo "doubled", .glo "lay_mask", .glo "reach_lanes", .glo "trim_strip", .glo "stop_refusal", .glo "save_lanes", .glo "store_lanes", .glo "put_lanes", .glo "fold_lanes", .glo "runs_in_order", .glo "runs_at_once", .glo "running_lanes", .glo "any_lanes"]
def faL1 : List He.Fa := [.glo "spread_read", .glo "shift_got", .glo "gather_got", .glo "op_got", .glo "pick_got", .glo "lane_got", .glo "lay_seat", .glo "begin_round", .glo "next_strip", .glo "end_turn", .glo "play_effect", .glo "play_step", .glo "ran", .glo "_law_cell_at", .glo "_law_some", .glo "_law_number", .glo "_law_alike", .glo "_law_lanes", .glo "_law_group", .glo "_law_dust", .glo "_law_ran", .glo "_law_kept", .glo "_law_joined", .glo "_law_signed", .glo "_law_step", .glo "_law_read", .glo "_law_active", .glo "_law_reads_laid", .glo "_law_got", .glo "_law_played"]
def faL2 : List He.Fa := [.glo "_law_faults", .glo "_law_due", .glo "_law_effects", .glo "_law_turned", .glo "_law_parts", .glo "_law_steps", .glo "_law_told", .glo "law", .glo "Boxes", .glo "Feed", .glo "Strip", .glo "Bench", .glo "Course", .glo "ByNought", .glo "RowError", .free "len", .free "min", .free "max", .free "sum", .free "list", .free "range", .free "zip", .free "isinstance", .free "int", .free "divmod", .free "str", .free "tuple", .free "bool", .int "HALF" 9223372036854775808, .int "CAP" 1000000000]
def faL3 : List He.Fa := [.cls "Boxes", .mkr "Boxes", .noat "Boxes" "lanes", .noat "Boxes" "boxes", .cls "Feed", .mkr "Feed", .noat "Feed" "stock", .noat "Feed" "spent", .cls "Strip", .mkr "Strip", .noat "Strip" "many", .noat "Strip" "group", .noat "Strip" "base", .noat "Strip" "began", .noat "Strip" "width", .noat "Strip" "faults", .noat "Strip" "cut", .cls "Bench", .mkr "Bench", .noat "Bench" "lengths", .noat "Bench" "cells", .noat "Bench" "lanes", .noat "Bench" "boxes", .noat "Bench" "masks", .noat "Bench" "slots", .noat "Bench" "dust", .noat "Bench" "picks", .noat "Bench" "place", .noat "Bench" "touches", .noat "Bench" "now"]
def faL4 : List He.Fa := [.noat "Bench" "carried", .noat "Bench" "raised", .cls "Course", .mkr "Course", .noat "Course" "ahead", .noat "Course" "opened", .noat "Course" "turns", .meth "Boxes" "lay", .meth "Boxes" "number_at", .meth "Feed" "taken"]
def faL : List He.Fa := faL0 ++ faL1 ++ faL2 ++ faL3 ++ faL4
/-- what is asked of the error class -/
def exB (K : PySem.W.Frag) : Bool := PySem.W.excIn K (He.ga K "ByNought") He.veBase "ValueError.__new__" && (PySem.W.keepIn K (.ref (He.ga K "ByNought")) && (decide (PySem.W.subIn K (.ref (He.ga K "ByNought")) (.type "BaseException") = some true) &&
  (decide (PySem.W.typeIn K (.ref (He.ga K "ByNought")) = some (.type "type")) && (PySem.W.isClsIn K (He.ga K "ByNought") && decide (PySem.W.subIn K (.ref (He.ga K "ByNought")) (.ref (He.ga K "ByNought")) = some true)))))
/-! the objects near the module's namespace: met ones by bits of a number -/
def visit {α : Type} : List Addr → Nat → List Addr → (Nat → List Addr → α) → α
  | [], v, l, k => k v l
  | a :: r, v, l, k => HandSHeadRun.frNat a fun a => match Nat.beq (Nat.land (Nat.shiftRight v a) 1) 1 with
    | true => visit r v l k
    | false => HandSHeadRun.frNat (Nat.lor v (Nat.shiftLeft 1 a)) fun v => visit r v (a :: l) k
def growB {α : Type} (g : Addr → Option Obj) : List Addr → Nat → List Addr → (Nat → List Addr → α) → α
  | [], v, l, k => k v l
  | a :: r, v, l, k => match g a with
    | some o => visit (He.refsD o) v l fun v l => growB g r v l k
    | none => growB g r v l k
def lvB (g : Addr → Option Obj) : Nat → List Addr → Nat → List Addr → List Addr
  | 0, _, _, all => all
  | n + 1, f, v, all => growB g f v [] fun v l => lvB g n l v (all ++ l)
def asB (g : Addr → Option Obj) : List Addr := lvB g 4 [mainGlobals] (Nat.shiftLeft 1 mainGlobals) [mainGlobals]
def obsB (g : Addr → Option Obj) : He.AlX := (He.obsT faL fnL [] (He.frT g (asB g)), exB (He.frT g (asB g)) && He.tabsB g [] (He.frT g (asB g)))
abbrev hk : PySem.W.Hook where
  α := He.AlX
  obs := fun s => obsB s.heap.get?
  val := fun w => He.valX fnL [] w
  says := fun w h => ∃ K : PySem.W.Frag, K.In h ∧ He.SaysX faL fnL [] [] exB w h K
  of := fun w s e => by
    have e0 : obsB s.heap.get? = He.valX fnL [] w := e
    have e2 : (exB (He.frT s.heap.get? (asB s.heap.get?)) && He.tabsB s.heap.get? [] (He.frT s.heap.get? (asB s.heap.get?))) = true := congrArg (fun z : He.AlX => z.2) e0
    exact ⟨_, He.frT_in, ⟨congrArg (fun z : He.AlX => z.1) e0, (Bool.and_eq_true_iff.mp e2).1, fun p hp => (by cases hp), fun p hp => (by cases hp), fun p hp => (by cases hp)⟩⟩
  keeps := fun _ _ _ ⟨K, hK, c⟩ k => ⟨K, PySem.W.Frag.In.keeps hK k, ⟨c.t, c.more, c.hd, c.out, fun p hp => (by cases hp)⟩⟩
/-- what the top has written, as the proofs take it -/
structure Txt (w : World) (K : PySem.W.Frag) (mg : Str → Option Value) : Prop where
  ex : ∃ h : Heap, K.In h ∧ h.Ns mainGlobals mg ∧ He.SaysX faL fnL [] [] exB w h K
section
variable {w : World} {K : PySem.W.Frag} {mg : Str → Option Value}
theorem Txt.fact (T : Txt w K mg) (i : Nat) {f : He.Fa} (h : faL[i]? = some f) : f.ok K = true := by
  obtain ⟨_, _, _, S⟩ := T.ex
  exact S.t.d.fact i h
theorem Txt.glo (T : Txt w K mg) (i : Nat) {x : Str} (h : faL[i]? = some (.glo x)) : mg x = some (.ref (He.ga K x)) := by
  obtain ⟨_, X, G, S⟩ := T.ex
  exact He.glo_ok X G (S.t.d.fact i h)
theorem Txt.free (T : Txt w K mg) (i : Nat) {x : Str} (h : faL[i]? = some (.free x)) : mg x = none := by
  obtain ⟨_, X, G, S⟩ := T.ex
  exact He.free_ok X G (S.t.d.fact i h)
theorem Txt.int (T : Txt w K mg) (i : Nat) {x : Str} {n : Int} (h : faL[i]? = some (.int x n)) : ∃ t, mg x = some (.int n t) := by
  obtain ⟨_, X, G, S⟩ := T.ex
  exact He.int_ok X G (S.t.d.fact i h)
def fdOf (K : PySem.W.Frag) (a : Addr) : FuncData := match K.lookup a with
  | some ⟨_, _, .func fd, _⟩ => fd
  | _ => ⟨"", "", { posonlyargs := [], args := [], vararg := none, kwonlyargs := [], kw_defaults := [], kwarg := none, defaults := [] }, .stmts [], ⟨.function, [], false, false, []⟩, 0, [], .none, .none, .none, .none, none, .none, .none, 0⟩
theorem fdOf_eq {x qual : Str} {params : Arguments} {body : List Stmt} {scope : Scope} {dvs : List V} {kws : List (Str × V)} {f : Addr} {fd : FuncData} (F : FunD K x qual params body scope dvs kws f fd) : fdOf K f = fd := by
  obtain ⟨oc, od, dV, kV, doc, pm, an, cdv, ct, osl, _, lk, _⟩ := F.ex
  unfold fdOf
  rw [lk]
theorem Txt.def_ (T : Txt w K mg) (i : Nat) {d : He.DefD} (h : fnL[i]? = some d) : FunD K d.name d.qual d.params d.body d.scope (d.dvs K) (d.kws K) (He.fAd K d.at_) (fdOf K (He.fAd K d.at_)) := by
  obtain ⟨_, _, _, S⟩ := T.ex
  obtain ⟨fd, F⟩ := S.t.d.def_ i h
  rw [fdOf_eq F]
  exact F

theorem Txt.g_start_of (T : Txt w K mg) : mg "start_of" = some (.ref (He.ga K "start_of")) := T.glo 0 rfl
theorem Txt.g_begin_strip (T : Txt w K mg) : mg "begin_strip" = some (.ref (He.ga K "begin_strip")) := T.glo 1 rfl
theorem Txt.g_lane_active (T : Txt w K mg) : mg "lane_active" = some (.ref (He.ga K "lane_active")) := T.glo 2 rfl
theorem Txt.g_active_lanes (T : Txt w K mg) : mg "active_lanes" = some (.ref (He.ga K "active_lanes")) := T.glo 3 rfl
theorem Txt.g_seat_number (T : Txt w K mg) : mg "seat_number" = some (.ref (He.ga K "seat_number")) := T.glo 4 rfl
theorem Txt.g_read_cell (T : Txt w K mg) : mg "read_cell" = some (.ref (He.ga K "read_cell")) := T.glo 5 rfl
theorem Txt.g_write_cell (T : Txt w K mg) : mg "write_cell" = some (.ref (He.ga K "write_cell")) := T.glo 6 rfl
theorem Txt.g_slot_address (T : Txt w K mg) : mg "slot_address" = some (.ref (He.ga K "slot_address")) := T.glo 7 rfl
theorem Txt.g_read_slot (T : Txt w K mg) : mg "read_slot" = some (.ref (He.ga K "read_slot")) := T.glo 8 rfl
theorem Txt.g_write_slot (T : Txt w K mg) : mg "write_slot" = some (.ref (He.ga K "write_slot")) := T.glo 9 rfl
theorem Txt.g_kept (T : Txt w K mg) : mg "kept" = some (.ref (He.ga K "kept")) := T.glo 10 rfl
theorem Txt.g_divided (T : Txt w K mg) : mg "divided" = some (.ref (He.ga K "divided")) := T.glo 11 rfl
theorem Txt.g_by_bits (T : Txt w K mg) : mg "by_bits" = some (.ref (He.ga K "by_bits")) := T.glo 12 rfl
theorem Txt.g_done (T : Txt w K mg) : mg "done" = some (.ref (He.ga K "done")) := T.glo 13 rfl
theorem Txt.g_free (T : Txt w K mg) : mg "free" = some (.ref (He.ga K "free")) := T.glo 14 rfl
theorem Txt.g_joined (T : Txt w K mg) : mg "joined" = some (.ref (He.ga K "joined")) := T.glo 15 rfl
theorem Txt.g_cut_join (T : Txt w K mg) : mg "cut_join" = some (.ref (He.ga K "cut_join")) := T.glo 16 rfl
theorem Txt.g_doubled (T : Txt w K mg) : mg "doubled" = some (.ref (He.ga K "doubled")) := T.glo 17 rfl
theorem Txt.g_lay_mask (T : Txt w K mg) : mg "lay_mask" = some (.ref (He.ga K "lay_mask")) := T.glo 18 rfl
theorem Txt.g_reach_lanes (T : Txt w K mg) : mg "reach_lanes" = some (.ref (He.ga K "reach_lanes")) := T.glo 19 rfl
theorem Txt.g_trim_strip (T : Txt w K mg) : mg "trim_strip" = some (.ref (He.ga K "trim_strip")) := T.glo 20 rfl
theorem Txt.g_stop_refusal (T : Txt w K mg) : mg "stop_refusal" = some (.ref (He.ga K "stop_refusal")) := T.glo 21 rfl
theorem Txt.g_save_lanes (T : Txt w K mg) : mg "save_lanes" = some (.ref (He.ga K "save_lanes")) := T.glo 22 rfl
theorem Txt.g_store_lanes (T : Txt w K mg) : mg "store_lanes" = some (.ref (He.ga K "store_lanes")) := T.glo 23 rfl
theorem Txt.g_put_lanes (T : Txt w K mg) : mg "put_lanes" = some (.ref (He.ga K "put_lanes")) := T.glo 24 rfl
theorem Txt.g_fold_lanes (T : Txt w K mg) : mg "fold_lanes" = some (.ref (He.ga K "fold_lanes")) := T.glo 25 rfl
theorem Txt.g_runs_in_order (T : Txt w K mg) : mg "runs_in_order" = some (.ref (He.ga K "runs_in_order")) := T.glo 26 rfl
theorem Txt.g_runs_at_once (T : Txt w K mg) : mg "runs_at_once" = some (.ref (He.ga K "runs_at_once")) := T.glo 27 rfl
theorem Txt.g_running_lanes (T : Txt w K mg) : mg "running_lanes" = some (.ref (He.ga K "running_lanes")) := T.glo 28 rfl
theorem Txt.g_any_lanes (T : Txt w K mg) : mg "any_lanes" = some (.ref (He.ga K "any_lanes")) := T.glo 29 rfl
theorem Txt.g_spread_read (T : Txt w K mg) : mg "spread_read" = some (.ref (He.ga K "spread_read")) := T.glo 30 rfl
theorem Txt.g_shift_got (T : Txt w K mg) : mg "shift_got" = some (.ref (He.ga K "shift_got")) := T.glo 31 rfl
theorem Txt.g_gather_got (T : Txt w K mg) : mg "gather_got" = some (.ref (He.ga K "gather_got")) := T.glo 32 rfl
theorem Txt.g_op_got (T : Txt w K mg) : mg "op_got" = some (.ref (He.ga K "op_got")) := T.glo 33 rfl
theorem Txt.g_pick_got (T : Txt w K mg) : mg "pick_got" = some (.ref (He.ga K "pick_got")) := T.glo 34 rfl
theorem Txt.g_lane_got (T : Txt w K mg) : mg "lane_got" = some (.ref (He.ga K "lane_got")) := T.glo 35 rfl
theorem Txt.g_lay_seat (T : Txt w K mg) : mg "lay_seat" = some (.ref (He.ga K "lay_seat")) := T.glo 36 rfl
theorem Txt.g_begin_round (T : Txt w K mg) : mg "begin_round" = some (.ref (He.ga K "begin_round")) := T.glo 37 rfl
theorem Txt.g_next_strip (T : Txt w K mg) : mg "next_strip" = some (.ref (He.ga K "next_strip")) := T.glo 38 rfl
theorem Txt.g_end_turn (T : Txt w K mg) : mg "end_turn" = some (.ref (He.ga K "end_turn")) := T.glo 39 rfl
theorem Txt.g_play_effect (T : Txt w K mg) : mg "play_effect" = some (.ref (He.ga K "play_effect")) := T.glo 40 rfl
theorem Txt.g_play_step (T : Txt w K mg) : mg "play_step" = some (.ref (He.ga K "play_step")) := T.glo 41 rfl
theorem Txt.g_ran (T : Txt w K mg) : mg "ran" = some (.ref (He.ga K "ran")) := T.glo 42 rfl
theorem Txt.g__law_cell_at (T : Txt w K mg) : mg "_law_cell_at" = some (.ref (He.ga K "_law_cell_at")) := T.glo 43 rfl
theorem Txt.g__law_some (T : Txt w K mg) : mg "_law_some" = some (.ref (He.ga K "_law_some")) := T.glo 44 rfl
theorem Txt.g__law_number (T : Txt w K mg) : mg "_law_number" = some (.ref (He.ga K "_law_number")) := T.glo 45 rfl
theorem Txt.g__law_alike (T : Txt w K mg) : mg "_law_alike" = some (.ref (He.ga K "_law_alike")) := T.glo 46 rfl
theorem Txt.g__law_lanes (T : Txt w K mg) : mg "_law_lanes" = some (.ref (He.ga K "_law_lanes")) := T.glo 47 rfl
theorem Txt.g__law_group (T : Txt w K mg) : mg "_law_group" = some (.ref (He.ga K "_law_group")) := T.glo 48 rfl
theorem Txt.g__law_dust (T : Txt w K mg) : mg "_law_dust" = some (.ref (He.ga K "_law_dust")) := T.glo 49 rfl
theorem Txt.g__law_ran (T : Txt w K mg) : mg "_law_ran" = some (.ref (He.ga K "_law_ran")) := T.glo 50 rfl
theorem Txt.g__law_kept (T : Txt w K mg) : mg "_law_kept" = some (.ref (He.ga K "_law_kept")) := T.glo 51 rfl
theorem Txt.g__law_joined (T : Txt w K mg) : mg "_law_joined" = some (.ref (He.ga K "_law_joined")) := T.glo 52 rfl
theorem Txt.g__law_signed (T : Txt w K mg) : mg "_law_signed" = some (.ref (He.ga K "_law_signed")) := T.glo 53 rfl
theorem Txt.g__law_step (T : Txt w K mg) : mg "_law_step" = some (.ref (He.ga K "_law_step")) := T.glo 54 rfl
theorem Txt.g__law_read (T : Txt w K mg) : mg "_law_read" = some (.ref (He.ga K "_law_read")) := T.glo 55 rfl
theorem Txt.g__law_active (T : Txt w K mg) : mg "_law_active" = some (.ref (He.ga K "_law_active")) := T.glo 56 rfl
theorem Txt.g__law_reads_laid (T : Txt w K mg) : mg "_law_reads_laid" = some (.ref (He.ga K "_law_reads_laid")) := T.glo 57 rfl
theorem Txt.g__law_got (T : Txt w K mg) : mg "_law_got" = some (.ref (He.ga K "_law_got")) := T.glo 58 rfl
theorem Txt.g__law_played (T : Txt w K mg) : mg "_law_played" = some (.ref (He.ga K "_law_played")) := T.glo 59 rfl
theorem Txt.g__law_faults (T : Txt w K mg) : mg "_law_faults" = some (.ref (He.ga K "_law_faults")) := T.glo 60 rfl
theorem Txt.g__law_due (T : Txt w K mg) : mg "_law_due" = some (.ref (He.ga K "_law_due")) := T.glo 61 rfl
theorem Txt.g__law_effects (T : Txt w K mg) : mg "_law_effects" = some (.ref (He.ga K "_law_effects")) := T.glo 62 rfl
theorem Txt.g__law_turned (T : Txt w K mg) : mg "_law_turned" = some (.ref (He.ga K "_law_turned")) := T.glo 63 rfl
theorem Txt.g__law_parts (T : Txt w K mg) : mg "_law_parts" = some (.ref (He.ga K "_law_parts")) := T.glo 64 rfl
theorem Txt.g__law_steps (T : Txt w K mg) : mg "_law_steps" = some (.ref (He.ga K "_law_steps")) := T.glo 65 rfl
theorem Txt.g__law_told (T : Txt w K mg) : mg "_law_told" = some (.ref (He.ga K "_law_told")) := T.glo 66 rfl
theorem Txt.g_law (T : Txt w K mg) : mg "law" = some (.ref (He.ga K "law")) := T.glo 67 rfl
theorem Txt.g_Boxes (T : Txt w K mg) : mg "Boxes" = some (.ref (He.ga K "Boxes")) := T.glo 68 rfl
theorem Txt.g_Feed (T : Txt w K mg) : mg "Feed" = some (.ref (He.ga K "Feed")) := T.glo 69 rfl
theorem Txt.g_Strip (T : Txt w K mg) : mg "Strip" = some (.ref (He.ga K "Strip")) := T.glo 70 rfl
theorem Txt.g_Bench (T : Txt w K mg) : mg "Bench" = some (.ref (He.ga K "Bench")) := T.glo 71 rfl
theorem Txt.g_Course (T : Txt w K mg) : mg "Course" = some (.ref (He.ga K "Course")) := T.glo 72 rfl
theorem Txt.g_ByNought (T : Txt w K mg) : mg "ByNought" = some (.ref (He.ga K "ByNought")) := T.glo 73 rfl
theorem Txt.g_RowError (T : Txt w K mg) : mg "RowError" = some (.ref (He.ga K "RowError")) := T.glo 74 rfl
theorem Txt.b_len (T : Txt w K mg) : mg "len" = none := T.free 75 rfl
theorem Txt.b_min (T : Txt w K mg) : mg "min" = none := T.free 76 rfl
theorem Txt.b_max (T : Txt w K mg) : mg "max" = none := T.free 77 rfl
theorem Txt.b_sum (T : Txt w K mg) : mg "sum" = none := T.free 78 rfl
theorem Txt.b_list (T : Txt w K mg) : mg "list" = none := T.free 79 rfl
theorem Txt.b_range (T : Txt w K mg) : mg "range" = none := T.free 80 rfl
theorem Txt.b_zip (T : Txt w K mg) : mg "zip" = none := T.free 81 rfl
theorem Txt.b_isinstance (T : Txt w K mg) : mg "isinstance" = none := T.free 82 rfl
theorem Txt.b_int (T : Txt w K mg) : mg "int" = none := T.free 83 rfl
theorem Txt.b_divmod (T : Txt w K mg) : mg "divmod" = none := T.free 84 rfl
theorem Txt.b_str (T : Txt w K mg) : mg "str" = none := T.free 85 rfl
theorem Txt.b_tuple (T : Txt w K mg) : mg "tuple" = none := T.free 86 rfl
theorem Txt.b_bool (T : Txt w K mg) : mg "bool" = none := T.free 87 rfl
theorem Txt.i_HALF (T : Txt w K mg) : ∃ t, mg "HALF" = some (.int 9223372036854775808 t) := T.int 88 rfl
theorem Txt.i_CAP (T : Txt w K mg) : ∃ t, mg "CAP" = some (.int 1000000000 t) := T.int 89 rfl
theorem Txt.cl_Boxes (T : Txt w K mg) : Cls K (He.ga K "Boxes") := He.cls_ok (T.fact 90 rfl)
theorem Txt.mk_Boxes (T : Txt w K mg) : Mk K (He.ga K "Boxes") (He.ma K (He.ga K "Boxes") "__init__") := He.mkr_ok (T.fact 91 rfl)
theorem Txt.n_Boxes_lanes (T : Txt w K mg) : NoAttr K (He.ga K "Boxes") "lanes" := He.noat_ok (T.fact 92 rfl)
theorem Txt.n_Boxes_boxes (T : Txt w K mg) : NoAttr K (He.ga K "Boxes") "boxes" := He.noat_ok (T.fact 93 rfl)
theorem Txt.cl_Feed (T : Txt w K mg) : Cls K (He.ga K "Feed") := He.cls_ok (T.fact 94 rfl)
theorem Txt.mk_Feed (T : Txt w K mg) : Mk K (He.ga K "Feed") (He.ma K (He.ga K "Feed") "__init__") := He.mkr_ok (T.fact 95 rfl)
theorem Txt.n_Feed_stock (T : Txt w K mg) : NoAttr K (He.ga K "Feed") "stock" := He.noat_ok (T.fact 96 rfl)
theorem Txt.n_Feed_spent (T : Txt w K mg) : NoAttr K (He.ga K "Feed") "spent" := He.noat_ok (T.fact 97 rfl)
theorem Txt.cl_Strip (T : Txt w K mg) : Cls K (He.ga K "Strip") := He.cls_ok (T.fact 98 rfl)
theorem Txt.mk_Strip (T : Txt w K mg) : Mk K (He.ga K "Strip") (He.ma K (He.ga K "Strip") "__init__") := He.mkr_ok (T.fact 99 rfl)
theorem Txt.n_Strip_many (T : Txt w K mg) : NoAttr K (He.ga K "Strip") "many" := He.noat_ok (T.fact 100 rfl)
theorem Txt.n_Strip_group (T : Txt w K mg) : NoAttr K (He.ga K "Strip") "group" := He.noat_ok (T.fact 101 rfl)
theorem Txt.n_Strip_base (T : Txt w K mg) : NoAttr K (He.ga K "Strip") "base" := He.noat_ok (T.fact 102 rfl)
theorem Txt.n_Strip_began (T : Txt w K mg) : NoAttr K (He.ga K "Strip") "began" := He.noat_ok (T.fact 103 rfl)
theorem Txt.n_Strip_width (T : Txt w K mg) : NoAttr K (He.ga K "Strip") "width" := He.noat_ok (T.fact 104 rfl)
theorem Txt.n_Strip_faults (T : Txt w K mg) : NoAttr K (He.ga K "Strip") "faults" := He.noat_ok (T.fact 105 rfl)
theorem Txt.n_Strip_cut (T : Txt w K mg) : NoAttr K (He.ga K "Strip") "cut" := He.noat_ok (T.fact 106 rfl)
theorem Txt.cl_Bench (T : Txt w K mg) : Cls K (He.ga K "Bench") := He.cls_ok (T.fact 107 rfl)
theorem Txt.mk_Bench (T : Txt w K mg) : Mk K (He.ga K "Bench") (He.ma K (He.ga K "Bench") "__init__") := He.mkr_ok (T.fact 108 rfl)
theorem Txt.n_Bench_lengths (T : Txt w K mg) : NoAttr K (He.ga K "Bench") "lengths" := He.noat_ok (T.fact 109 rfl)
theorem Txt.n_Bench_cells (T : Txt w K mg) : NoAttr K (He.ga K "Bench") "cells" := He.noat_ok (T.fact 110 rfl)
theorem Txt.n_Bench_lanes (T : Txt w K mg) : NoAttr K (He.ga K "Bench") "lanes" := He.noat_ok (T.fact 111 rfl)
theorem Txt.n_Bench_boxes (T : Txt w K mg) : NoAttr K (He.ga K "Bench") "boxes" := He.noat_ok (T.fact 112 rfl)
theorem Txt.n_Bench_masks (T : Txt w K mg) : NoAttr K (He.ga K "Bench") "masks" := He.noat_ok (T.fact 113 rfl)
theorem Txt.n_Bench_slots (T : Txt w K mg) : NoAttr K (He.ga K "Bench") "slots" := He.noat_ok (T.fact 114 rfl)
theorem Txt.n_Bench_dust (T : Txt w K mg) : NoAttr K (He.ga K "Bench") "dust" := He.noat_ok (T.fact 115 rfl)
theorem Txt.n_Bench_picks (T : Txt w K mg) : NoAttr K (He.ga K "Bench") "picks" := He.noat_ok (T.fact 116 rfl)
theorem Txt.n_Bench_place (T : Txt w K mg) : NoAttr K (He.ga K "Bench") "place" := He.noat_ok (T.fact 117 rfl)
theorem Txt.n_Bench_touches (T : Txt w K mg) : NoAttr K (He.ga K "Bench") "touches" := He.noat_ok (T.fact 118 rfl)
theorem Txt.n_Bench_now (T : Txt w K mg) : NoAttr K (He.ga K "Bench") "now" := He.noat_ok (T.fact 119 rfl)
theorem Txt.n_Bench_carried (T : Txt w K mg) : NoAttr K (He.ga K "Bench") "carried" := He.noat_ok (T.fact 120 rfl)
theorem Txt.n_Bench_raised (T : Txt w K mg) : NoAttr K (He.ga K "Bench") "raised" := He.noat_ok (T.fact 121 rfl)
theorem Txt.cl_Course (T : Txt w K mg) : Cls K (He.ga K "Course") := He.cls_ok (T.fact 122 rfl)
theorem Txt.mk_Course (T : Txt w K mg) : Mk K (He.ga K "Course") (He.ma K (He.ga K "Course") "__init__") := He.mkr_ok (T.fact 123 rfl)
theorem Txt.n_Course_ahead (T : Txt w K mg) : NoAttr K (He.ga K "Course") "ahead" := He.noat_ok (T.fact 124 rfl)
theorem Txt.n_Course_opened (T : Txt w K mg) : NoAttr K (He.ga K "Course") "opened" := He.noat_ok (T.fact 125 rfl)
theorem Txt.n_Course_turns (T : Txt w K mg) : NoAttr K (He.ga K "Course") "turns" := He.noat_ok (T.fact 126 rfl)
theorem Txt.m_Boxes_lay (T : Txt w K mg) : Meth K (He.ga K "Boxes") "lay" (He.ma K (He.ga K "Boxes") "lay") := He.meth_ok (T.fact 127 rfl)
theorem Txt.m_Boxes_number_at (T : Txt w K mg) : Meth K (He.ga K "Boxes") "number_at" (He.ma K (He.ga K "Boxes") "number_at") := He.meth_ok (T.fact 128 rfl)
theorem Txt.m_Feed_taken (T : Txt w K mg) : Meth K (He.ga K "Feed") "taken" (He.ma K (He.ga K "Feed") "taken") := He.meth_ok (T.fact 129 rfl)
abbrev ad_Boxes_init (K : PySem.W.Frag) : Addr := (He.ma K (He.ga K "Boxes") "__init__")
theorem Txt.f_Boxes_init (T : Txt w K mg) : FunD K "__init__" "Boxes.__init__" (defArgs s_Boxes_init) (defBody s_Boxes_init) (defScope s_Boxes_init) [] [] (ad_Boxes_init K) (fdOf K (ad_Boxes_init K)) := T.def_ 0 (d := d_Boxes_init) rfl
abbrev ad_Boxes_lay (K : PySem.W.Frag) : Addr := (He.ma K (He.ga K "Boxes") "lay")
theorem Txt.f_Boxes_lay (T : Txt w K mg) : FunD K "lay" "Boxes.lay" (defArgs s_Boxes_lay) (defBody s_Boxes_lay) (defScope s_Boxes_lay) [] [] (ad_Boxes_lay K) (fdOf K (ad_Boxes_lay K)) := T.def_ 1 (d := d_Boxes_lay) rfl
abbrev ad_Boxes_number_at (K : PySem.W.Frag) : Addr := (He.ma K (He.ga K "Boxes") "number_at")
theorem Txt.f_Boxes_number_at (T : Txt w K mg) : FunD K "number_at" "Boxes.number_at" (defArgs s_Boxes_number_at) (defBody s_Boxes_number_at) (defScope s_Boxes_number_at) [] [] (ad_Boxes_number_at K) (fdOf K (ad_Boxes_number_at K)) := T.def_ 2 (d := d_Boxes_number_at) rfl
abbrev ad_Feed_init (K : PySem.W.Frag) : Addr := (He.ma K (He.ga K "Feed") "__init__")
theorem Txt.f_Feed_init (T : Txt w K mg) : FunD K "__init__" "Feed.__init__" (defArgs s_Feed_init) (defBody s_Feed_init) (defScope s_Feed_init) [] [] (ad_Feed_init K) (fdOf K (ad_Feed_init K)) := T.def_ 3 (d := d_Feed_init) rfl
abbrev ad_Feed_taken (K : PySem.W.Frag) : Addr := (He.ma K (He.ga K "Feed") "taken")
theorem Txt.f_Feed_taken (T : Txt w K mg) : FunD K "taken" "Feed.taken" (defArgs s_Feed_taken) (defBody s_Feed_taken) (defScope s_Feed_taken) [] [] (ad_Feed_taken K) (fdOf K (ad_Feed_taken K)) := T.def_ 4 (d := d_Feed_taken) rfl
abbrev ad_start_of (K : PySem.W.Frag) : Addr := (He.ga K "start_of")
theorem Txt.f_start_of (T : Txt w K mg) : FunD K "start_of" "start_of" (defArgs s_start_of) (defBody s_start_of) (defScope s_start_of) [] [] (ad_start_of K) (fdOf K (ad_start_of K)) := T.def_ 5 (d := d_start_of) rfl
abbrev ad_Strip_init (K : PySem.W.Frag) : Addr := (He.ma K (He.ga K "Strip") "__init__")
theorem Txt.f_Strip_init (T : Txt w K mg) : FunD K "__init__" "Strip.__init__" (defArgs s_Strip_init) (defBody s_Strip_init) (defScope s_Strip_init) [] [] (ad_Strip_init K) (fdOf K (ad_Strip_init K)) := T.def_ 6 (d := d_Strip_init) rfl
abbrev ad_Bench_init (K : PySem.W.Frag) : Addr := (He.ma K (He.ga K "Bench") "__init__")
theorem Txt.f_Bench_init (T : Txt w K mg) : FunD K "__init__" "Bench.__init__" (defArgs s_Bench_init) (defBody s_Bench_init) (defScope s_Bench_init) [] [] (ad_Bench_init K) (fdOf K (ad_Bench_init K)) := T.def_ 7 (d := d_Bench_init) rfl
abbrev ad_begin_strip (K : PySem.W.Frag) : Addr := (He.ga K "begin_strip")
theorem Txt.f_begin_strip (T : Txt w K mg) : FunD K "begin_strip" "begin_strip" (defArgs s_begin_strip) (defBody s_begin_strip) (defScope s_begin_strip) [] [] (ad_begin_strip K) (fdOf K (ad_begin_strip K)) := T.def_ 8 (d := d_begin_strip) rfl
abbrev ad_lane_active (K : PySem.W.Frag) : Addr := (He.ga K "lane_active")
theorem Txt.f_lane_active (T : Txt w K mg) : FunD K "lane_active" "lane_active" (defArgs s_lane_active) (defBody s_lane_active) (defScope s_lane_active) [] [] (ad_lane_active K) (fdOf K (ad_lane_active K)) := T.def_ 9 (d := d_lane_active) rfl
abbrev ad_active_lanes (K : PySem.W.Frag) : Addr := (He.ga K "active_lanes")
theorem Txt.f_active_lanes (T : Txt w K mg) : FunD K "active_lanes" "active_lanes" (defArgs s_active_lanes) (defBody s_active_lanes) (defScope s_active_lanes) [] [] (ad_active_lanes K) (fdOf K (ad_active_lanes K)) := T.def_ 10 (d := d_active_lanes) rfl
abbrev ad_seat_number (K : PySem.W.Frag) : Addr := (He.ga K "seat_number")
theorem Txt.f_seat_number (T : Txt w K mg) : FunD K "seat_number" "seat_number" (defArgs s_seat_number) (defBody s_seat_number) (defScope s_seat_number) [] [] (ad_seat_number K) (fdOf K (ad_seat_number K)) := T.def_ 11 (d := d_seat_number) rfl
abbrev ad_read_cell (K : PySem.W.Frag) : Addr := (He.ga K "read_cell")
theorem Txt.f_read_cell (T : Txt w K mg) : FunD K "read_cell" "read_cell" (defArgs s_read_cell) (defBody s_read_cell) (defScope s_read_cell) [] [] (ad_read_cell K) (fdOf K (ad_read_cell K)) := T.def_ 12 (d := d_read_cell) rfl
abbrev ad_write_cell (K : PySem.W.Frag) : Addr := (He.ga K "write_cell")
theorem Txt.f_write_cell (T : Txt w K mg) : FunD K "write_cell" "write_cell" (defArgs s_write_cell) (defBody s_write_cell) (defScope s_write_cell) [] [] (ad_write_cell K) (fdOf K (ad_write_cell K)) := T.def_ 13 (d := d_write_cell) rfl
abbrev ad_slot_address (K : PySem.W.Frag) : Addr := (He.ga K "slot_address")
theorem Txt.f_slot_address (T : Txt w K mg) : FunD K "slot_address" "slot_address" (defArgs s_slot_address) (defBody s_slot_address) (defScope s_slot_address) [] [] (ad_slot_address K) (fdOf K (ad_slot_address K)) := T.def_ 14 (d := d_slot_address) rfl
abbrev ad_read_slot (K : PySem.W.Frag) : Addr := (He.ga K "read_slot")
theorem Txt.f_read_slot (T : Txt w K mg) : FunD K "read_slot" "read_slot" (defArgs s_read_slot) (defBody s_read_slot) (defScope s_read_slot) [] [] (ad_read_slot K) (fdOf K (ad_read_slot K)) := T.def_ 15 (d := d_read_slot) rfl
abbrev ad_write_slot (K : PySem.W.Frag) : Addr := (He.ga K "write_slot")
theorem Txt.f_write_slot (T : Txt w K mg) : FunD K "write_slot" "write_slot" (defArgs s_write_slot) (defBody s_write_slot) (defScope s_write_slot) [] [] (ad_write_slot K) (fdOf K (ad_write_slot K)) := T.def_ 16 (d := d_write_slot) rfl
abbrev ad_kept (K : PySem.W.Frag) : Addr := (He.ga K "kept")
theorem Txt.f_kept (T : Txt w K mg) : FunD K "kept" "kept" (defArgs s_kept) (defBody s_kept) (defScope s_kept) [] [] (ad_kept K) (fdOf K (ad_kept K)) := T.def_ 17 (d := d_kept) rfl
abbrev ad_divided (K : PySem.W.Frag) : Addr := (He.ga K "divided")
theorem Txt.f_divided (T : Txt w K mg) : FunD K "divided" "divided" (defArgs s_divided) (defBody s_divided) (defScope s_divided) [] [] (ad_divided K) (fdOf K (ad_divided K)) := T.def_ 18 (d := d_divided) rfl
abbrev ad_by_bits (K : PySem.W.Frag) : Addr := (He.ga K "by_bits")
theorem Txt.f_by_bits (T : Txt w K mg) : FunD K "by_bits" "by_bits" (defArgs s_by_bits) (defBody s_by_bits) (defScope s_by_bits) [] [] (ad_by_bits K) (fdOf K (ad_by_bits K)) := T.def_ 19 (d := d_by_bits) rfl
abbrev ad_done (K : PySem.W.Frag) : Addr := (He.ga K "done")
theorem Txt.f_done (T : Txt w K mg) : FunD K "done" "done" (defArgs s_done) (defBody s_done) (defScope s_done) [] [] (ad_done K) (fdOf K (ad_done K)) := T.def_ 20 (d := d_done) rfl
abbrev ad_free (K : PySem.W.Frag) : Addr := (He.ga K "free")
theorem Txt.f_free (T : Txt w K mg) : FunD K "free" "free" (defArgs s_free) (defBody s_free) (defScope s_free) [] [] (ad_free K) (fdOf K (ad_free K)) := T.def_ 21 (d := d_free) rfl
abbrev ad_joined (K : PySem.W.Frag) : Addr := (He.ga K "joined")
theorem Txt.f_joined (T : Txt w K mg) : FunD K "joined" "joined" (defArgs s_joined) (defBody s_joined) (defScope s_joined) [] [] (ad_joined K) (fdOf K (ad_joined K)) := T.def_ 22 (d := d_joined) rfl
abbrev ad_cut_join (K : PySem.W.Frag) : Addr := (He.ga K "cut_join")
theorem Txt.f_cut_join (T : Txt w K mg) : FunD K "cut_join" "cut_join" (defArgs s_cut_join) (defBody s_cut_join) (defScope s_cut_join) [] [] (ad_cut_join K) (fdOf K (ad_cut_join K)) := T.def_ 23 (d := d_cut_join) rfl
abbrev ad_doubled (K : PySem.W.Frag) : Addr := (He.ga K "doubled")
theorem Txt.f_doubled (T : Txt w K mg) : FunD K "doubled" "doubled" (defArgs s_doubled) (defBody s_doubled) (defScope s_doubled) [] [] (ad_doubled K) (fdOf K (ad_doubled K)) := T.def_ 24 (d := d_doubled) rfl
abbrev ad_lay_mask (K : PySem.W.Frag) : Addr := (He.ga K "lay_mask")
theorem Txt.f_lay_mask (T : Txt w K mg) : FunD K "lay_mask" "lay_mask" (defArgs s_lay_mask) (defBody s_lay_mask) (defScope s_lay_mask) [] [] (ad_lay_mask K) (fdOf K (ad_lay_mask K)) := T.def_ 25 (d := d_lay_mask) rfl
abbrev ad_reach_lanes (K : PySem.W.Frag) : Addr := (He.ga K "reach_lanes")
theorem Txt.f_reach_lanes (T : Txt w K mg) : FunD K "reach_lanes" "reach_lanes" (defArgs s_reach_lanes) (defBody s_reach_lanes) (defScope s_reach_lanes) [] [] (ad_reach_lanes K) (fdOf K (ad_reach_lanes K)) := T.def_ 26 (d := d_reach_lanes) rfl
abbrev ad_trim_strip (K : PySem.W.Frag) : Addr := (He.ga K "trim_strip")
theorem Txt.f_trim_strip (T : Txt w K mg) : FunD K "trim_strip" "trim_strip" (defArgs s_trim_strip) (defBody s_trim_strip) (defScope s_trim_strip) [] [] (ad_trim_strip K) (fdOf K (ad_trim_strip K)) := T.def_ 27 (d := d_trim_strip) rfl
abbrev ad_stop_refusal (K : PySem.W.Frag) : Addr := (He.ga K "stop_refusal")
theorem Txt.f_stop_refusal (T : Txt w K mg) : FunD K "stop_refusal" "stop_refusal" (defArgs s_stop_refusal) (defBody s_stop_refusal) (defScope s_stop_refusal) [] [] (ad_stop_refusal K) (fdOf K (ad_stop_refusal K)) := T.def_ 28 (d := d_stop_refusal) rfl
abbrev ad_save_lanes (K : PySem.W.Frag) : Addr := (He.ga K "save_lanes")
theorem Txt.f_save_lanes (T : Txt w K mg) : FunD K "save_lanes" "save_lanes" (defArgs s_save_lanes) (defBody s_save_lanes) (defScope s_save_lanes) [] [] (ad_save_lanes K) (fdOf K (ad_save_lanes K)) := T.def_ 29 (d := d_save_lanes) rfl
abbrev ad_store_lanes (K : PySem.W.Frag) : Addr := (He.ga K "store_lanes")
theorem Txt.f_store_lanes (T : Txt w K mg) : FunD K "store_lanes" "store_lanes" (defArgs s_store_lanes) (defBody s_store_lanes) (defScope s_store_lanes) [] [] (ad_store_lanes K) (fdOf K (ad_store_lanes K)) := T.def_ 30 (d := d_store_lanes) rfl
abbrev ad_put_lanes (K : PySem.W.Frag) : Addr := (He.ga K "put_lanes")
theorem Txt.f_put_lanes (T : Txt w K mg) : FunD K "put_lanes" "put_lanes" (defArgs s_put_lanes) (defBody s_put_lanes) (defScope s_put_lanes) [] [] (ad_put_lanes K) (fdOf K (ad_put_lanes K)) := T.def_ 31 (d := d_put_lanes) rfl
abbrev ad_fold_lanes (K : PySem.W.Frag) : Addr := (He.ga K "fold_lanes")
theorem Txt.f_fold_lanes (T : Txt w K mg) : FunD K "fold_lanes" "fold_lanes" (defArgs s_fold_lanes) (defBody s_fold_lanes) (defScope s_fold_lanes) [] [] (ad_fold_lanes K) (fdOf K (ad_fold_lanes K)) := T.def_ 32 (d := d_fold_lanes) rfl
abbrev ad_runs_in_order (K : PySem.W.Frag) : Addr := (He.ga K "runs_in_order")
theorem Txt.f_runs_in_order (T : Txt w K mg) : FunD K "runs_in_order" "runs_in_order" (defArgs s_runs_in_order) (defBody s_runs_in_order) (defScope s_runs_in_order) [] [] (ad_runs_in_order K) (fdOf K (ad_runs_in_order K)) := T.def_ 33 (d := d_runs_in_order) rfl
abbrev ad_runs_at_once (K : PySem.W.Frag) : Addr := (He.ga K "runs_at_once")
theorem Txt.f_runs_at_once (T : Txt w K mg) : FunD K "runs_at_once" "runs_at_once" (defArgs s_runs_at_once) (defBody s_runs_at_once) (defScope s_runs_at_once) [] [] (ad_runs_at_once K) (fdOf K (ad_runs_at_once K)) := T.def_ 34 (d := d_runs_at_once) rfl
abbrev ad_running_lanes (K : PySem.W.Frag) : Addr := (He.ga K "running_lanes")
theorem Txt.f_running_lanes (T : Txt w K mg) : FunD K "running_lanes" "running_lanes" (defArgs s_running_lanes) (defBody s_running_lanes) (defScope s_running_lanes) [] [] (ad_running_lanes K) (fdOf K (ad_running_lanes K)) := T.def_ 35 (d := d_running_lanes) rfl
abbrev ad_any_lanes (K : PySem.W.Frag) : Addr := (He.ga K "any_lanes")
theorem Txt.f_any_lanes (T : Txt w K mg) : FunD K "any_lanes" "any_lanes" (defArgs s_any_lanes) (defBody s_any_lanes) (defScope s_any_lanes) [] [] (ad_any_lanes K) (fdOf K (ad_any_lanes K)) := T.def_ 36 (d := d_any_lanes) rfl
abbrev ad_spread_read (K : PySem.W.Frag) : Addr := (He.ga K "spread_read")
theorem Txt.f_spread_read (T : Txt w K mg) : FunD K "spread_read" "spread_read" (defArgs s_spread_read) (defBody s_spread_read) (defScope s_spread_read) [] [] (ad_spread_read K) (fdOf K (ad_spread_read K)) := T.def_ 37 (d := d_spread_read) rfl
abbrev ad_shift_got (K : PySem.W.Frag) : Addr := (He.ga K "shift_got")
theorem Txt.f_shift_got (T : Txt w K mg) : FunD K "shift_got" "shift_got" (defArgs s_shift_got) (defBody s_shift_got) (defScope s_shift_got) [] [] (ad_shift_got K) (fdOf K (ad_shift_got K)) := T.def_ 38 (d := d_shift_got) rfl
abbrev ad_gather_got (K : PySem.W.Frag) : Addr := (He.ga K "gather_got")
theorem Txt.f_gather_got (T : Txt w K mg) : FunD K "gather_got" "gather_got" (defArgs s_gather_got) (defBody s_gather_got) (defScope s_gather_got) [] [] (ad_gather_got K) (fdOf K (ad_gather_got K)) := T.def_ 39 (d := d_gather_got) rfl
abbrev ad_op_got (K : PySem.W.Frag) : Addr := (He.ga K "op_got")
theorem Txt.f_op_got (T : Txt w K mg) : FunD K "op_got" "op_got" (defArgs s_op_got) (defBody s_op_got) (defScope s_op_got) [] [] (ad_op_got K) (fdOf K (ad_op_got K)) := T.def_ 40 (d := d_op_got) rfl
abbrev ad_pick_got (K : PySem.W.Frag) : Addr := (He.ga K "pick_got")
theorem Txt.f_pick_got (T : Txt w K mg) : FunD K "pick_got" "pick_got" (defArgs s_pick_got) (defBody s_pick_got) (defScope s_pick_got) [] [] (ad_pick_got K) (fdOf K (ad_pick_got K)) := T.def_ 41 (d := d_pick_got) rfl
abbrev ad_lane_got (K : PySem.W.Frag) : Addr := (He.ga K "lane_got")
theorem Txt.f_lane_got (T : Txt w K mg) : FunD K "lane_got" "lane_got" (defArgs s_lane_got) (defBody s_lane_got) (defScope s_lane_got) [] [] (ad_lane_got K) (fdOf K (ad_lane_got K)) := T.def_ 42 (d := d_lane_got) rfl
abbrev ad_lay_seat (K : PySem.W.Frag) : Addr := (He.ga K "lay_seat")
theorem Txt.f_lay_seat (T : Txt w K mg) : FunD K "lay_seat" "lay_seat" (defArgs s_lay_seat) (defBody s_lay_seat) (defScope s_lay_seat) [] [] (ad_lay_seat K) (fdOf K (ad_lay_seat K)) := T.def_ 43 (d := d_lay_seat) rfl
abbrev ad_Course_init (K : PySem.W.Frag) : Addr := (He.ma K (He.ga K "Course") "__init__")
theorem Txt.f_Course_init (T : Txt w K mg) : FunD K "__init__" "Course.__init__" (defArgs s_Course_init) (defBody s_Course_init) (defScope s_Course_init) [] [] (ad_Course_init K) (fdOf K (ad_Course_init K)) := T.def_ 44 (d := d_Course_init) rfl
abbrev ad_begin_round (K : PySem.W.Frag) : Addr := (He.ga K "begin_round")
theorem Txt.f_begin_round (T : Txt w K mg) : FunD K "begin_round" "begin_round" (defArgs s_begin_round) (defBody s_begin_round) (defScope s_begin_round) [] [] (ad_begin_round K) (fdOf K (ad_begin_round K)) := T.def_ 45 (d := d_begin_round) rfl
abbrev ad_next_strip (K : PySem.W.Frag) : Addr := (He.ga K "next_strip")
theorem Txt.f_next_strip (T : Txt w K mg) : FunD K "next_strip" "next_strip" (defArgs s_next_strip) (defBody s_next_strip) (defScope s_next_strip) [] [] (ad_next_strip K) (fdOf K (ad_next_strip K)) := T.def_ 46 (d := d_next_strip) rfl
abbrev ad_end_turn (K : PySem.W.Frag) : Addr := (He.ga K "end_turn")
theorem Txt.f_end_turn (T : Txt w K mg) : FunD K "end_turn" "end_turn" (defArgs s_end_turn) (defBody s_end_turn) (defScope s_end_turn) [] [] (ad_end_turn K) (fdOf K (ad_end_turn K)) := T.def_ 47 (d := d_end_turn) rfl
abbrev ad_play_effect (K : PySem.W.Frag) : Addr := (He.ga K "play_effect")
theorem Txt.f_play_effect (T : Txt w K mg) : FunD K "play_effect" "play_effect" (defArgs s_play_effect) (defBody s_play_effect) (defScope s_play_effect) [] [] (ad_play_effect K) (fdOf K (ad_play_effect K)) := T.def_ 48 (d := d_play_effect) rfl
abbrev ad_play_step (K : PySem.W.Frag) : Addr := (He.ga K "play_step")
theorem Txt.f_play_step (T : Txt w K mg) : FunD K "play_step" "play_step" (defArgs s_play_step) (defBody s_play_step) (defScope s_play_step) [] [] (ad_play_step K) (fdOf K (ad_play_step K)) := T.def_ 49 (d := d_play_step) rfl
abbrev ad_ran (K : PySem.W.Frag) : Addr := (He.ga K "ran")
theorem Txt.f_ran (T : Txt w K mg) : FunD K "ran" "ran" (defArgs s_ran) (defBody s_ran) (defScope s_ran) [] [] (ad_ran K) (fdOf K (ad_ran K)) := T.def_ 50 (d := d_ran) rfl
abbrev ad__law_cell_at (K : PySem.W.Frag) : Addr := (He.ga K "_law_cell_at")
theorem Txt.f__law_cell_at (T : Txt w K mg) : FunD K "_law_cell_at" "_law_cell_at" (defArgs s__law_cell_at) (defBody s__law_cell_at) (defScope s__law_cell_at) [] [] (ad__law_cell_at K) (fdOf K (ad__law_cell_at K)) := T.def_ 51 (d := d__law_cell_at) rfl
abbrev ad__law_some (K : PySem.W.Frag) : Addr := (He.ga K "_law_some")
theorem Txt.f__law_some (T : Txt w K mg) : FunD K "_law_some" "_law_some" (defArgs s__law_some) (defBody s__law_some) (defScope s__law_some) [] [] (ad__law_some K) (fdOf K (ad__law_some K)) := T.def_ 52 (d := d__law_some) rfl
abbrev ad__law_number (K : PySem.W.Frag) : Addr := (He.ga K "_law_number")
theorem Txt.f__law_number (T : Txt w K mg) : FunD K "_law_number" "_law_number" (defArgs s__law_number) (defBody s__law_number) (defScope s__law_number) [] [] (ad__law_number K) (fdOf K (ad__law_number K)) := T.def_ 53 (d := d__law_number) rfl
abbrev ad__law_alike (K : PySem.W.Frag) : Addr := (He.ga K "_law_alike")
theorem Txt.f__law_alike (T : Txt w K mg) : FunD K "_law_alike" "_law_alike" (defArgs s__law_alike) (defBody s__law_alike) (defScope s__law_alike) [] [] (ad__law_alike K) (fdOf K (ad__law_alike K)) := T.def_ 54 (d := d__law_alike) rfl
abbrev ad__law_lanes (K : PySem.W.Frag) : Addr := (He.ga K "_law_lanes")
theorem Txt.f__law_lanes (T : Txt w K mg) : FunD K "_law_lanes" "_law_lanes" (defArgs s__law_lanes) (defBody s__law_lanes) (defScope s__law_lanes) [] [] (ad__law_lanes K) (fdOf K (ad__law_lanes K)) := T.def_ 55 (d := d__law_lanes) rfl
abbrev ad__law_group (K : PySem.W.Frag) : Addr := (He.ga K "_law_group")
theorem Txt.f__law_group (T : Txt w K mg) : FunD K "_law_group" "_law_group" (defArgs s__law_group) (defBody s__law_group) (defScope s__law_group) [] [] (ad__law_group K) (fdOf K (ad__law_group K)) := T.def_ 56 (d := d__law_group) rfl
abbrev ad__law_dust (K : PySem.W.Frag) : Addr := (He.ga K "_law_dust")
theorem Txt.f__law_dust (T : Txt w K mg) : FunD K "_law_dust" "_law_dust" (defArgs s__law_dust) (defBody s__law_dust) (defScope s__law_dust) [] [] (ad__law_dust K) (fdOf K (ad__law_dust K)) := T.def_ 57 (d := d__law_dust) rfl
abbrev ad__law_ran (K : PySem.W.Frag) : Addr := (He.ga K "_law_ran")
theorem Txt.f__law_ran (T : Txt w K mg) : FunD K "_law_ran" "_law_ran" (defArgs s__law_ran) (defBody s__law_ran) (defScope s__law_ran) [] [] (ad__law_ran K) (fdOf K (ad__law_ran K)) := T.def_ 58 (d := d__law_ran) rfl
abbrev ad__law_kept (K : PySem.W.Frag) : Addr := (He.ga K "_law_kept")
theorem Txt.f__law_kept (T : Txt w K mg) : FunD K "_law_kept" "_law_kept" (defArgs s__law_kept) (defBody s__law_kept) (defScope s__law_kept) [] [] (ad__law_kept K) (fdOf K (ad__law_kept K)) := T.def_ 59 (d := d__law_kept) rfl
abbrev ad__law_joined (K : PySem.W.Frag) : Addr := (He.ga K "_law_joined")
theorem Txt.f__law_joined (T : Txt w K mg) : FunD K "_law_joined" "_law_joined" (defArgs s__law_joined) (defBody s__law_joined) (defScope s__law_joined) [] [] (ad__law_joined K) (fdOf K (ad__law_joined K)) := T.def_ 60 (d := d__law_joined) rfl
abbrev ad__law_signed (K : PySem.W.Frag) : Addr := (He.ga K "_law_signed")
theorem Txt.f__law_signed (T : Txt w K mg) : FunD K "_law_signed" "_law_signed" (defArgs s__law_signed) (defBody s__law_signed) (defScope s__law_signed) [] [] (ad__law_signed K) (fdOf K (ad__law_signed K)) := T.def_ 61 (d := d__law_signed) rfl
abbrev ad__law_step (K : PySem.W.Frag) : Addr := (He.ga K "_law_step")
theorem Txt.f__law_step (T : Txt w K mg) : FunD K "_law_step" "_law_step" (defArgs s__law_step) (defBody s__law_step) (defScope s__law_step) [] [] (ad__law_step K) (fdOf K (ad__law_step K)) := T.def_ 62 (d := d__law_step) rfl
abbrev ad__law_read (K : PySem.W.Frag) : Addr := (He.ga K "_law_read")
theorem Txt.f__law_read (T : Txt w K mg) : FunD K "_law_read" "_law_read" (defArgs s__law_read) (defBody s__law_read) (defScope s__law_read) [] [] (ad__law_read K) (fdOf K (ad__law_read K)) := T.def_ 63 (d := d__law_read) rfl
abbrev ad__law_active (K : PySem.W.Frag) : Addr := (He.ga K "_law_active")
theorem Txt.f__law_active (T : Txt w K mg) : FunD K "_law_active" "_law_active" (defArgs s__law_active) (defBody s__law_active) (defScope s__law_active) [] [] (ad__law_active K) (fdOf K (ad__law_active K)) := T.def_ 64 (d := d__law_active) rfl
abbrev ad__law_reads_laid (K : PySem.W.Frag) : Addr := (He.ga K "_law_reads_laid")
theorem Txt.f__law_reads_laid (T : Txt w K mg) : FunD K "_law_reads_laid" "_law_reads_laid" (defArgs s__law_reads_laid) (defBody s__law_reads_laid) (defScope s__law_reads_laid) [] [] (ad__law_reads_laid K) (fdOf K (ad__law_reads_laid K)) := T.def_ 65 (d := d__law_reads_laid) rfl
abbrev ad__law_got (K : PySem.W.Frag) : Addr := (He.ga K "_law_got")
theorem Txt.f__law_got (T : Txt w K mg) : FunD K "_law_got" "_law_got" (defArgs s__law_got) (defBody s__law_got) (defScope s__law_got) [] [] (ad__law_got K) (fdOf K (ad__law_got K)) := T.def_ 66 (d := d__law_got) rfl
abbrev ad__law_played (K : PySem.W.Frag) : Addr := (He.ga K "_law_played")
theorem Txt.f__law_played (T : Txt w K mg) : FunD K "_law_played" "_law_played" (defArgs s__law_played) (defBody s__law_played) (defScope s__law_played) [] [] (ad__law_played K) (fdOf K (ad__law_played K)) := T.def_ 67 (d := d__law_played) rfl
abbrev ad__law_faults (K : PySem.W.Frag) : Addr := (He.ga K "_law_faults")
theorem Txt.f__law_faults (T : Txt w K mg) : FunD K "_law_faults" "_law_faults" (defArgs s__law_faults) (defBody s__law_faults) (defScope s__law_faults) [] [] (ad__law_faults K) (fdOf K (ad__law_faults K)) := T.def_ 68 (d := d__law_faults) rfl
abbrev ad__law_due (K : PySem.W.Frag) : Addr := (He.ga K "_law_due")
theorem Txt.f__law_due (T : Txt w K mg) : FunD K "_law_due" "_law_due" (defArgs s__law_due) (defBody s__law_due) (defScope s__law_due) [] [] (ad__law_due K) (fdOf K (ad__law_due K)) := T.def_ 69 (d := d__law_due) rfl
abbrev ad__law_effects (K : PySem.W.Frag) : Addr := (He.ga K "_law_effects")
theorem Txt.f__law_effects (T : Txt w K mg) : FunD K "_law_effects" "_law_effects" (defArgs s__law_effects) (defBody s__law_effects) (defScope s__law_effects) [] [] (ad__law_effects K) (fdOf K (ad__law_effects K)) := T.def_ 70 (d := d__law_effects) rfl
abbrev ad__law_turned (K : PySem.W.Frag) : Addr := (He.ga K "_law_turned")
theorem Txt.f__law_turned (T : Txt w K mg) : FunD K "_law_turned" "_law_turned" (defArgs s__law_turned) (defBody s__law_turned) (defScope s__law_turned) [] [] (ad__law_turned K) (fdOf K (ad__law_turned K)) := T.def_ 71 (d := d__law_turned) rfl
abbrev ad__law_parts (K : PySem.W.Frag) : Addr := (He.ga K "_law_parts")
theorem Txt.f__law_parts (T : Txt w K mg) : FunD K "_law_parts" "_law_parts" (defArgs s__law_parts) (defBody s__law_parts) (defScope s__law_parts) [] [] (ad__law_parts K) (fdOf K (ad__law_parts K)) := T.def_ 72 (d := d__law_parts) rfl
abbrev ad__law_steps (K : PySem.W.Frag) : Addr := (He.ga K "_law_steps")
theorem Txt.f__law_steps (T : Txt w K mg) : FunD K "_law_steps" "_law_steps" (defArgs s__law_steps) (defBody s__law_steps) (defScope s__law_steps) [] [] (ad__law_steps K) (fdOf K (ad__law_steps K)) := T.def_ 73 (d := d__law_steps) rfl
abbrev ad__law_told (K : PySem.W.Frag) : Addr := (He.ga K "_law_told")
theorem Txt.f__law_told (T : Txt w K mg) : FunD K "_law_told" "_law_told" (defArgs s__law_told) (defBody s__law_told) (defScope s__law_told) [] [] (ad__law_told K) (fdOf K (ad__law_told K)) := T.def_ 74 (d := d__law_told) rfl
abbrev ad_law (K : PySem.W.Frag) : Addr := (He.ga K "law")
theorem Txt.f_law (T : Txt w K mg) : FunD K "law" "law" (defArgs s_law) (defBody s_law) (defScope s_law) [] [] (ad_law K) (fdOf K (ad_law K)) := T.def_ 75 (d := d_law) rfl
end
end Rb
end

section
set_option Elab.async false
set_option linter.all false
set_option maxRecDepth 100000
set_option maxHeartbeats 0
namespace Rb
open PySem PySem.Spec PyProof.Rows L2
abbrev R : PySem.W.OpenRow := PySem.W.OpenLaw.row PySem.Challenge.rw_rowbreadth_k42_whole_strips_at_any_bread
def ob (s : PySem.W.SharedT) : He.AlX := obsB (HandSHeadRun.getT s)
theorem ob_eq (s : PySem.W.SharedT) : ob s = hk.obs s.abs := by
  have e : HandSHeadRun.getT s = s.abs.heap.get? := funext (HandSHeadRun.getT_eq s)
  show obsB _ = obsB _
  rw [e]
def names : List Str := (["Boxes", "Feed", "start_of", "Strip", "Bench", "begin_strip", "lane_active", "active_lanes", "seat_number", "read_cell", "write_cell", "slot_address", "read_slot", "write_slot", "RowError"] : List Str) ++ (["ByNought", "HALF", "CAP", "kept", "divided", "by_bits", "done", "free", "joined", "cut_join", "doubled", "lay_mask", "reach_lanes", "trim_strip", "stop_refusal"] : List Str) ++ (["save_lanes", "store_lanes", "put_lanes", "fold_lanes", "runs_in_order", "runs_at_once", "running_lanes", "any_lanes", "spread_read", "shift_got", "gather_got", "op_got", "pick_got", "lane_got", "lay_seat"] : List Str) ++ (["Course", "begin_round", "next_strip", "end_turn", "play_effect", "play_step", "ran", "_law_cell_at", "_law_some", "_law_number", "_law_alike", "_law_lanes", "_law_group", "_law_dust", "_law_ran"] : List Str) ++ (["_law_kept", "_law_joined", "_law_signed", "_law_step", "_law_read", "_law_active", "_law_reads_laid", "_law_got", "_law_played", "_law_faults", "_law_due", "_law_effects", "_law_turned", "_law_parts", "_law_steps"] : List Str) ++ (["_law_told"] : List Str)
theorem run (w : World) : HandSHeadRun.RunEq R (PySem.W.view R.prog [87]) hk ob 4000 names w := by
  intro os
  kernel_rfl
end Rb
open PySem PySem.W PySem.Calls PyProof.Rows
theorem rb_holds (hF : ∀ (w : World) (K : PySem.W.Frag) (mg : PySem.Str → Option Value), Rb.Txt w K mg → ∃ (fd : FuncData) (sp : L2.Sp), (∀ (s : Shared) (u : Value), BindsTo s fd ⟨[u], []⟩ [("_law_script", u)]) ∧
        (∀ (H : L2.Hp) (a : Addr) (ns : List Int), ns.length ≤ 63 → L2.SqL K H a (ns.map L2.V.int) → sp [.ref a] H (fun v _ => v = .bl true) fun _ _ _ => False) ∧
        ∀ base : Heap, K.In base → base.Ns mainGlobals mg → L2.FnOk (PySem.Challenge.rw_rowbreadth_k42_whole_strips_at_any_bread).prog w K mg base L2.CX0 100 (He.ga K "law") fd ["_law_script"] sp) : PySem.Challenge.rw_rowbreadth_k42_whole_strips_at_any_bread.Holds := by
  w_on; o_law
  refine HandSHeadRun.head_any (r := OpenLaw.row PySem.Challenge.rw_rowbreadth_k42_whole_strips_at_any_bread) (q := view (OpenLaw.row PySem.Challenge.rw_rowbreadth_k42_whole_strips_at_any_bread).prog [87]) (H := Rb.hk) (ob := Rb.ob) (M := 4000) (loose := Rb.names) (d := HandSHeadRun.topDef (OpenLaw.row PySem.Challenge.rw_rowbreadth_k42_whole_strips_at_any_bread).prog 87) (kwd := []) Rb.ob_eq
    (by kernel_rfl) (fun s => by kernel_rfl) Rb.run (by kernel_rfl) (by kernel_rfl) (by kernel_rfl) (by rfl) (by first | assumption | decide +kernel) (by decide +kernel) ⟨rfl, rfl, rfl, rfl, rfl, by decide +kernel⟩ ?hw ?hc
  case hw => w_witness2
  case hc =>
    refine L2.walk_ofE (l := PySem.Challenge.rw_rowbreadth_k42_whole_strips_at_any_bread) (n := 63) (k := 100) (x := "_law_script") (CX := L2.CX0) rfl (by decide) (by kernel_rfl) ⟨rfl, by decide, by decide⟩ ?F (fun _ _ _ _ z => z)
    intro w mg fa h Y G hmg0
    obtain ⟨K, KX, c⟩ := Y
    have hmg : mg ("law" : PySem.Str) = some (.ref fa) := by
      have e : (HandSHeadRun.topDef (OpenLaw.row PySem.Challenge.rw_rowbreadth_k42_whole_strips_at_any_bread).prog 87).name = ("law" : PySem.Str) := by kernel_rfl
      rw [← e]
      exact hmg0
    have T : Rb.Txt w K mg := ⟨h, KX, G, c⟩
    have e := hmg.symm.trans T.g_law
    cases e
    obtain ⟨fd, sp, hb, hsp, hF'⟩ := hF w K mg T
    exact ⟨K, fd, sp, KX, hb, fun H a ns hl _ hS => hsp H a ns hl hS, hF'⟩
end

section
set_option Elab.async false
set_option linter.all false
set_option maxRecDepth 100000
set_option maxHeartbeats 4000000
namespace Rb
open PySem PySem.Spec PyProof.Rows L2
/-! ### bundles: a def, a method, a class, as its callers take it -/
structure Cal (P : Program) (w : World) (K : PySem.W.Frag) (mg : Str → Option Value) (base : Heap) (k : Nat) (x : Str) (ps : List Str) (sp : Sp) : Prop where
  ex : ∃ f fd, FnOk P w K mg base CX0 k f fd ps sp ∧ mg x = some (.ref f) ∧ PySem.W.keepIn K (.ref f) = true ∧ Binds K fd ps []
structure CalM (P : Program) (w : World) (K : PySem.W.Frag) (mg : Str → Option Value) (base : Heap) (k : Nat) (C : Addr) (m : Str) (ps : List Str) (sp : Sp) : Prop where
  cl : Cls K C
  ex : ∃ f fd, Meth K C m f ∧ FnOk P w K mg base CX0 k f fd ps sp ∧ Binds K fd ps []
structure CalC (P : Program) (w : World) (K : PySem.W.Frag) (mg : Str → Option Value) (base : Heap) (k : Nat) (x : Str) (C : Addr) (ps : List Str) (sp : Sp) : Prop where
  gm : mg x = some (.ref C)
  ex : ∃ f fd, Mk K C f ∧ FnOk P w K mg base CX0 k f fd ps sp ∧ Binds K fd ps []
/-- a def that may raise -/
structure CalX (P : Program) (w : World) (K : PySem.W.Frag) (mg : Str → Option Value) (base : Heap) (k : Nat) (x : Str) (f : Addr) (fd : FuncData) (ps : List Str) (sp : Sp) : Prop where
  ok : FnOk P w K mg base (L2.CX P w) k f fd ps sp
  gm : mg x = some (.ref f)
  kp : PySem.W.keepIn K (.ref f) = true
  bd : Binds K fd ps []
section
variable {X : Cx} {k : Nat} {x m : Str} {ps : List Str} {sp : Sp} {e o : Expr} {es : List Expr} {t : TA} {ta : TE} {p pos apos : Pos} {C : Addr}
theorem pe_cl (c : Cal X.prog X.w X.K X.mg X.base k x ps sp) (hr : Room k X.A) (ha : PA X (e :: es) t) (hg : Gl X x := by rfl) (hdb : (x == ("__debug__" : Str)) = false := by decide)
    (he : starEach (e :: es) X.env = (false, eval e X.env) :: starEach es X.env := by rfl) (hpl : (backTo pos (starEach es X.env)).any (·.1) = false := by rfl) : PE X (.Call (.Name x p) (e :: es) [] pos) (tCall sp [] E0 t) := by
  obtain ⟨f, fd, F, hm, hk, hb⟩ := c.ex
  exact pe_call F hr hg hm hk hb .nil pass0 ha hdb he hpl
theorem pe_clm {pl : Sem Bool} (he : PE X o ta) (c : CalM X.prog X.w X.K X.mg X.base k C m ps sp) (hr : Room k X.A) (ha : PA X (e :: es) t)
    (hst : starEach (e :: es) X.env = (false, eval e X.env) :: starEach es X.env := by rfl) (hpl : (backTo pos (starEach es X.env)).any (·.1) = false := by rfl)
    (ht : eval (.Call (.Attribute o m apos) (e :: es) [] pos) X.env = (do
      let ov ← eval o X.env
      standAt apos.atName
      let (f, first) ← holding [ov] (getMethod ov m pl)
      callWith pos f first (backTo pos (starEach (e :: es) X.env)) (backToKw pos (keywordEach [] X.env))) := by rfl) : PE X (.Call (.Attribute o m apos) (e :: es) [] pos) (tMeth C m sp [] E0 ta t) := by
  obtain ⟨f, fd, hm, F, hb⟩ := c.ex
  exact pe_meth he c.cl hm F hr hb .nil pass0 ha hst hpl ht
theorem pe_clm0 {pl : Sem Bool} (he : PE X o ta) (c : CalM X.prog X.w X.K X.mg X.base k C m ps sp) (hr : Room k X.A)
    (ht : eval (.Call (.Attribute o m apos) [] [] pos) X.env = (do
      let ov ← eval o X.env
      standAt apos.atName
      let (f, first) ← holding [ov] (getMethod ov m pl)
      callWith pos f first (backTo pos (starEach [] X.env)) (backToKw pos (keywordEach [] X.env))) := by rfl) : PE X (.Call (.Attribute o m apos) [] [] pos) (tMeth C m sp [] E0 ta tNil) := by
  obtain ⟨f, fd, hm, F, hb⟩ := c.ex
  exact pe_meth0 he c.cl hm F hr hb .nil pass0 ht
theorem pe_clc (c : CalC X.prog X.w X.K X.mg X.base k x C ps sp) (hr : Room (k + 1) X.A) (ha : PA X (e :: es) t) (hg : Gl X x := by rfl) (hdb : (x == ("__debug__" : Str)) = false := by decide)
    (he : starEach (e :: es) X.env = (false, eval e X.env) :: starEach es X.env := by rfl) (hpl : (backTo pos (starEach es X.env)).any (·.1) = false := by rfl) : PE X (.Call (.Name x p) (e :: es) [] pos) (tMake C sp [] E0 t) := by
  obtain ⟨f, fd, M, F, hb⟩ := c.ex
  exact pe_make M F hr hg c.gm hb .nil pass0 ha hdb he hpl
theorem pe_clc0 (c : CalC X.prog X.w X.K X.mg X.base k x C ps sp) (hr : Room (k + 1) X.A) (hg : Gl X x := by rfl) (hdb : (x == ("__debug__" : Str)) = false := by decide) : PE X (.Call (.Name x p) [] [] pos) (tMake C sp [] E0 tNil) := by
  obtain ⟨f, fd, M, F, hb⟩ := c.ex
  exact pe_make0 M F hr hg c.gm hb .nil pass0 hdb
/-- a module's int -/
theorem pe_gi {i : Int} (h : ∃ t, X.mg x = some (.int i t)) (hg : Gl X x) (hd : (x == ("__debug__" : Str)) = false := by decide) : PE X (.Name x pos) (tC (.int i)) := by
  obtain ⟨t, h⟩ := h
  exact pe_glob hg h ⟨t, rfl⟩ hd
/-! ### rules of my own -/
def CDivX (_ j : Int) : Prop := j ≠ 0 ∧ j.natAbs.log2 < 9000
theorem op_fdivX : OpR X (binaryOp .FloorDiv) (rI CDivX fun i j => .int (i.fdiv j)) := opI fun _ _ _ _ _ _ _ hc q => floordiv_int hc.1 q (.inl (PyProof.noPylong_of_log2 hc.2))
theorem call_divmodX : CallR X (.builtin "divmod") (fun xs H Q => ∃ i j, xs = [.int i, .int j] ∧ CDivX i j ∧ ∀ p, H p = none → Q (.ref p) (upd H p (.tup [.int (i.fdiv j), .int (i.fmod j)]))) := by
  intro pins s σ H xs us Q I r h
  obtain ⟨i, j, rfl, ⟨h1, h2⟩, q⟩ := h
  obtain ⟨u, w', rfl, ⟨t, rfl⟩, ⟨t', rfl⟩⟩ := vals2 r
  refine divmod_int h1 ?_ (.inl (PyProof.noPylong_of_log2 h2))
  have hn : H s.heap.objs.size = none := I.hok.fresh (Nat.le_refl _)
  refine ⟨.ref s.heap.objs.size, _, ?_, rfl, q _ hn⟩
  refine I.laid (fun b o e => Heap.get?_push_of_some _ e) (Nat.le_refl _) ⟨by simp only [List.length_cons, List.length_nil]; rw [sizeLine_eq]; decide, [.int (i.fdiv j) s.toks, .int (i.fmod j) (s.toks + 1)], .cons ⟨_, rfl⟩ (.cons ⟨_, rfl⟩ .nil), ?_⟩
  exact ⟨_, Heap.get?_push_size s.heap rfl, rfl, 0, rfl⟩
theorem ip_mulR : PIp X .Mult (rI CMul fun i j => .int (i * j)) := fun pins s σ H x y v u Q I r1 r2 h => iop_mul pins s σ H x y v u Q I r1 r2 h
end
/-! ### tests whose answer is a proposition -/
theorem iteD {c A B : Prop} [Decidable c] (h1 : c → A) (h2 : ¬ c → B) : if decide c = true then A else B := by
  by_cases h : c
  · rw [if_pos (decide_eq_true h)]
    exact h1 h
  · rw [if_neg (by simp [h])]
    exact h2 h
theorem iteDT {c A B : Prop} [Decidable c] (h : c) (a : A) : if decide c = true then A else B := by
  rw [if_pos (decide_eq_true h)]
  exact a
theorem iteDF {c A B : Prop} [Decidable c] (h : ¬ c) (b : B) : if decide c = true then A else B := by
  rw [if_neg (by simp [h])]
  exact b
theorem iteS {x y : Str} {A B : Prop} (h1 : x = y → A) (h2 : x ≠ y → B) : if decide (V.str x = V.str y) = true then A else B := by
  by_cases h : x = y
  · rw [if_pos (decide_eq_true (congrArg V.str h))]
    exact h1 h
  · rw [if_neg (by simp [h])]
    exact h2 h
theorem iteI {x y : Int} {A B : Prop} (h1 : x = y → A) (h2 : x ≠ y → B) : if decide (V.int x = V.int y) = true then A else B := by
  by_cases h : x = y
  · rw [if_pos (decide_eq_true (congrArg V.int h))]
    exact h1 h
  · rw [if_neg (by simp [h])]
    exact h2 h
theorem iteN {c A B : Prop} [Decidable c] (h1 : ¬ c → A) (h2 : c → B) : if (!decide c) = true then A else B := by
  by_cases h : c
  · rw [if_neg (by simp [h])]
    exact h2 h
  · rw [if_pos (by simp [h])]
    exact h1 h
/-! ### numbers -/
def kept (n : Int) : Int := (n + 9223372036854775808) % (2 * 9223372036854775808) - 9223372036854775808
def KR (n : Int) : Prop := -9223372036854775808 ≤ n ∧ n < 9223372036854775808
theorem kept_kr (n : Int) : KR (kept n) := by
  unfold kept KR
  omega
theorem KR.cmul {i : Int} (h : KR i) (j : Int) : CMul i j := by
  unfold KR at h
  refine .inl ⟨?_, ?_⟩
  · exact Int.lt_of_lt_of_le (by decide) h.1
  · exact Int.lt_trans h.2 (by decide)
theorem KR.log {i : Int} (h : KR i) : i.natAbs.log2 < 9000 := by
  unfold KR at h
  have h1 : i.natAbs < 2 ^ 64 := by
    have e : (2 : Nat) ^ 64 = 18446744073709551616 := by decide
    rw [e]
    omega
  have h2 : i.natAbs.log2 ≤ 64 := by
    by_cases h0 : i.natAbs = 0
    · rw [h0]
      decide
    · have := (Nat.log2_lt h0).mpr h1
      omega
  omega
/-- what a sign makes of two numbers, where it does not refuse -/
def sgn (s : Str) (l r : Int) : Option Int :=
  if s = "+" then some (kept (l + r)) else
  if s = "-" then some (kept (l - r)) else
  if s = "*" then some (kept (l * r)) else
  if s = "/" ∨ s = "rest" then (if r = 0 then none else if s = "/" then some (kept (l.fdiv r)) else some (l.fmod r)) else
  if s = "least" then some (if r < l then r else l) else
  if s = "most" then some (if r > l then r else l) else
  if s = "<" then some (if l < r then 1 else 0) else
  if s = "=" then some (if l = r then 1 else 0) else
  if s = "&" then some (Builtin.bitAnd l r) else
  if s = "|" then some (Builtin.bitOr l r) else some (Builtin.bitXor l r)
/-- what a fold makes of a running number and a number -/
def jn (s : Str) (r n : Int) : Int :=
  if s = "sum" then kept (r + n) else
  if s = "product" then kept (r * n) else
  if s = "both" then Builtin.bitAnd r n else
  if s = "either" then Builtin.bitOr r n else
  if s = "odd" then Builtin.bitXor r n else
  if s = "chain" then kept (31 * r + n) else
  if s = "capped" then (if (if r + n < 1000000000 then r + n else 1000000000) > -1000000000 then (if r + n < 1000000000 then r + n else 1000000000) else -1000000000) else
  if s = "least" then (if n < r then n else r) else (if n > r then n else r)
/-- the nine folds -/
def Fold9 (s : Str) : Prop := s = "sum" ∨ s = "product" ∨ s = "least" ∨ s = "most" ∨ s = "both" ∨ s = "either" ∨ s = "odd" ∨ s = "chain" ∨ s = "capped"
end Rb
namespace Rb
open PySem PySem.Spec PyProof.Rows L2
/-! ### the error class -/
theorem Txt.nought {w : World} {K : PySem.W.Frag} {mg : Str → Option Value} (T : Txt w K mg) : PySem.W.excIn K (He.ga K "ByNought") He.veBase "ValueError.__new__" = true ∧ PySem.W.keepIn K (.ref (He.ga K "ByNought")) = true ∧ PySem.W.subIn K (.ref (He.ga K "ByNought")) (.type "BaseException") = some true ∧
    PySem.W.typeIn K (.ref (He.ga K "ByNought")) = some (.type "type") ∧ PySem.W.isClsIn K (He.ga K "ByNought") = true ∧ PySem.W.subIn K (.ref (He.ga K "ByNought")) (.ref (He.ga K "ByNought")) = some true := by
  obtain ⟨_, _, _, S⟩ := T.ex
  have h := S.more
  unfold exB at h
  simp only [Bool.and_eq_true, decide_eq_true_eq] at h
  exact h
theorem exm_self {K : PySem.W.Frag} {S : Addr} (h1 : PySem.W.subIn K (.ref S) (.type "BaseException") = some true) (h2 : PySem.W.isClsIn K S = true) (h3 : PySem.W.typeIn K (.ref S) = some (.type "type")) (h4 : PySem.W.subIn K (.ref S) (.ref S) = some true) :
    PySem.W.exmOne K (.ref S) (.ref S) = some true := by
  have e1 : (PySem.W.subIn K (.ref S) (.type "BaseException") == some true) = true := by rw [h1] <;> rfl
  have e2 : ((PySem.W.clsIn K S).isSome && PySem.W.typeIn K (.ref S) == some (.type "type")) = true := by
    have h2' : (PySem.W.clsIn K S).isSome = true := h2
    rw [h2', h3] <;> rfl
  show (if (PySem.W.subIn K (.ref S) (.type "BaseException") == some true) = true then (if ((PySem.W.clsIn K S).isSome && PySem.W.typeIn K (.ref S) == some (.type "type")) = true then PySem.W.subIn K (.ref S) (.ref S) else none) else none) = some true
  rw [if_pos e1, if_pos e2]
  exact h4
end Rb
end

section
set_option Elab.async false
set_option linter.all false
set_option maxRecDepth 100000
set_option maxHeartbeats 4000000
namespace Rb
open PySem PySem.Spec PyProof.Rows L2
theorem same_upd {H H' : Hp} {p : Addr} {o : HO} (s : Same H H') (h : H p = none) : Same H (upd H' p o) := fun b u e => by
  rw [upd_ne (ne_of_none e h)]
  exact s b u e
theorem same_new {H : Hp} {p : Addr} {o : HO} (h : H p = none) : Same H (L2.upd H p o) := same_upd (Same.refl H) h
theorem wipe_one {σ : L2.St} {sl : Nat} {v : Option V} : wipe ((wipe σ [sl]).set sl v) [sl] = wipe σ [sl] := by
  show (((σ.set sl none).set sl v).set sl none) = σ.set sl none
  rw [List.set_set, List.set_set]
theorem yes_of {σ : L2.St} {H : Hp} {A B : Hp → Prop} (h : A H) : tYes σ H (fun b H3 => if b = true then A H3 else B H3) := by
  show (if true = true then A H else B H)
  rw [if_pos rfl]
  exact h
theorem set_wipe {σ : L2.St} {sl : Nat} {v : Option V} : (wipe σ [sl]).set sl v = σ.set sl v := by
  show (σ.set sl none).set sl v = σ.set sl v
  rw [List.set_set]
theorem range_map_succ {α : Type} (f : Nat → α) (i : Nat) : (List.range (i + 1)).map f = (List.range i).map f ++ [f i] := by
  rw [List.range_succ, List.map_append]
  rfl
theorem sz_lt {n : Nat} (h : n < 1000000) : n < sizeLine := Nat.lt_of_lt_of_le h (by decide)
theorem sz_le {n : Nat} (h : n ≤ 1000000) : n ≤ sizeLine := Nat.le_trans h (by decide)
/-- what a comprehension over a range asks, its element a function of the turn -/
theorem comp_range {σ : L2.St} {sl : Nat} {lo : Int} {n : Nat} {te : TE} {H1 : Hp} {D : Addr} {Qd : Hp → Prop} (hD : H1 D = none) (f : Nat → V) (hn : n ≤ 1000000)
    (hs : ∀ (i : Nat) H, i < n → Same H1 H → ∀ Q : VK, (∀ H', Same H H' → Q (f i) H') → te (σ.set sl (some (.int (lo + i)))) H Q)
    (hd : ∀ H, Same H1 H → H D = some (.lst ((List.range n).map f)) → Qd H) :
    ∃ W : Nat → Nat → Hp → Prop, (∃ m, W 0 m (upd H1 D (.lst []))) ∧ ∀ i m H, W i m H →
      ((Itr lo n).stop i H ∧ Qd H) ∨ ((Itr lo n).go i H ∧ ∃ Nx : Hp → Prop, (∀ H', Nx H' → ∃ m', m' < m ∧ W (i + 1) m' H') ∧ ∀ x H', (Itr lo n).yld i H x H' → gName sl x (wipe σ [sl]) H' fun σ2 H2 => wipe σ2 [sl] = wipe σ [sl] ∧ tYes σ2 H2 fun b H3 =>
        if b = true then te σ2 H3 fun y H4 => ∃ acc, H4 D = some (.lst acc) ∧ acc.length < sizeLine ∧ Nx (upd H4 D (.lst (acc ++ [y]))) else Nx H3) := by
  refine lc_range (fun i H => Same H1 H ∧ H D = some (.lst ((List.range i).map f))) ⟨same_new hD, upd_same⟩ (fun i H hi ⟨s1, h1⟩ => ?_) (fun H ⟨s1, h1⟩ => hd H s1 h1)
  refine ⟨wipe_one, ?_⟩
  refine yes_of ?_
  rw [set_wipe]
  refine hs i H hi s1 _ fun H' s2 => ⟨_, s2 _ _ h1, sz_lt (by rw [List.length_map, List.length_range]; omega), fun b o e => ?_, ?_⟩
  · rw [upd_ne (ne_of_none e hD)]
    exact s2 b o (s1 b o e)
  · rw [upd_same, range_map_succ]
/-- with a test -/
theorem comp_rangeF {σ : L2.St} {sl : Nat} {lo : Int} {n : Nat} {te : TE} {tt : TT} {H1 : Hp} {D : Addr} {Qd : Hp → Prop} (hD : H1 D = none) (f : Nat → V) (t : Nat → Bool) (hn : n ≤ 1000000)
    (ht : ∀ (i : Nat) H, i < n → Same H1 H → ∀ Q : Bool → Hp → Prop, (∀ H', Same H H' → Q (t i) H') → tt (σ.set sl (some (.int (lo + i)))) H Q)
    (hs : ∀ (i : Nat) H, i < n → t i = true → Same H1 H → ∀ Q : VK, (∀ H', Same H H' → Q (f i) H') → te (σ.set sl (some (.int (lo + i)))) H Q)
    (hd : ∀ H, Same H1 H → H D = some (.lst (((List.range n).filter t).map f)) → Qd H) :
    ∃ W : Nat → Nat → Hp → Prop, (∃ m, W 0 m (upd H1 D (.lst []))) ∧ ∀ i m H, W i m H →
      ((Itr lo n).stop i H ∧ Qd H) ∨ ((Itr lo n).go i H ∧ ∃ Nx : Hp → Prop, (∀ H', Nx H' → ∃ m', m' < m ∧ W (i + 1) m' H') ∧ ∀ x H', (Itr lo n).yld i H x H' → gName sl x (wipe σ [sl]) H' fun σ2 H2 => wipe σ2 [sl] = wipe σ [sl] ∧ tt σ2 H2 fun b H3 =>
        if b = true then te σ2 H3 fun y H4 => ∃ acc, H4 D = some (.lst acc) ∧ acc.length < sizeLine ∧ Nx (upd H4 D (.lst (acc ++ [y]))) else Nx H3) := by
  refine lc_range (fun i H => Same H1 H ∧ H D = some (.lst (((List.range i).filter t).map f))) ⟨same_new hD, upd_same⟩ (fun i H hi ⟨s1, h1⟩ => ?_) (fun H ⟨s1, h1⟩ => hd H s1 h1)
  refine ⟨wipe_one, ?_⟩
  rw [set_wipe]
  refine ht i H hi s1 _ fun H' s2 => ?_
  have s3 : Same H1 H' := s1.trans s2
  have e1 : (List.range (i + 1)).filter t = (List.range i).filter t ++ (if t i = true then [i] else []) := by
    rw [List.range_succ, List.filter_append]
    by_cases c : t i = true
    · rw [if_pos c, List.filter_cons_of_pos c]
      rfl
    · rw [if_neg c, List.filter_cons_of_neg c]
      rfl
  by_cases c : t i = true
  · rw [c]
    refine iteT ?_
    refine hs i H' hi c s3 _ fun H2 s4 => ⟨_, s4 _ _ (s2 _ _ h1), sz_lt (by
      rw [List.length_map]
      have := List.length_filter_le t (List.range i)
      rw [List.length_range] at this
      omega), fun b o e => ?_, ?_⟩
    · rw [upd_ne (ne_of_none e hD)]
      exact s4 b o (s3 b o e)
    · rw [upd_same, e1, if_pos c, List.map_append]
      rfl
  · have c' : t i = false := by simpa using c
    rw [c']
    refine iteF ⟨s3, ?_⟩
    rw [e1, if_neg c, List.append_nil]
    exact s2 _ _ h1
/-- elements that are new objects -/
theorem comp_rangeA {σ : L2.St} {sl : Nat} {lo : Int} {n : Nat} {te : TE} {H1 : Hp} {D : Addr} {Qd : Hp → Prop} (hD : H1 D = none) (o : Nat → HO) (hn : n ≤ 1000000)
    (hs : ∀ (i : Nat) H, i < n → Same H1 H → ∀ Q : VK, (∀ p H', H p = none → Same H H' → H' p = some (o i) → Q (.ref p) H') → te (σ.set sl (some (.int (lo + i)))) H Q)
    (hd : ∀ H (as : List Addr), Same H1 H → H D = some (.lst (as.map V.ref)) → as.length = n → as.Nodup → D ∉ as → (∀ i p, as[i]? = some p → H1 p = none ∧ H p = some (o i)) → Qd H) :
    ∃ W : Nat → Nat → Hp → Prop, (∃ m, W 0 m (upd H1 D (.lst []))) ∧ ∀ i m H, W i m H →
      ((Itr lo n).stop i H ∧ Qd H) ∨ ((Itr lo n).go i H ∧ ∃ Nx : Hp → Prop, (∀ H', Nx H' → ∃ m', m' < m ∧ W (i + 1) m' H') ∧ ∀ x H', (Itr lo n).yld i H x H' → gName sl x (wipe σ [sl]) H' fun σ2 H2 => wipe σ2 [sl] = wipe σ [sl] ∧ tYes σ2 H2 fun b H3 =>
        if b = true then te σ2 H3 fun y H4 => ∃ acc, H4 D = some (.lst acc) ∧ acc.length < sizeLine ∧ Nx (upd H4 D (.lst (acc ++ [y]))) else Nx H3) := by
  refine lc_range (fun i H => Same H1 H ∧ ∃ as : List Addr, H D = some (.lst (as.map V.ref)) ∧ as.length = i ∧ as.Nodup ∧ D ∉ as ∧ ∀ j p, as[j]? = some p → H1 p = none ∧ H p = some (o j))
    ⟨same_new hD, [], upd_same, rfl, List.nodup_nil, by simp, by simp⟩ (fun i H hi ⟨s1, as, h1, hl, nd, nD, ha⟩ => ?_) (fun H ⟨s1, as, h1, hl, nd, nD, ha⟩ => hd H as s1 h1 hl nd nD ha)
  refine ⟨wipe_one, ?_⟩
  refine yes_of ?_
  rw [set_wipe]
  refine hs i H hi s1 _ fun p H' hp s2 h2 => ⟨_, s2 _ _ h1, sz_lt (by rw [List.length_map]; omega), fun b o e => ?_, as ++ [p], ?_, ?_, ?_, ?_, ?_⟩
  · rw [upd_ne (ne_of_none e hD)]
    exact s2 b o (s1 b o e)
  · rw [upd_same, List.map_append]
    rfl
  · rw [List.length_append, hl]
    rfl
  · refine List.nodup_append.mpr ⟨nd, by simp, fun a ha' b hb => ?_⟩
    simp at hb
    subst hb
    obtain ⟨j, hj⟩ := List.mem_iff_getElem?.mp ha'
    exact ne_of_none (ha j a hj).2 hp
  · intro hm
    rcases List.mem_append.mp hm with hm | hm
    · exact nD hm
    · simp at hm
      rw [← hm] at hp
      rw [h1] at hp
      cases hp
  · intro j q hq
    have hDp : p ≠ D := fun z => by rw [z, h1] at hp; cases hp
    by_cases hj : j < as.length
    · rw [List.getElem?_append_left hj] at hq
      obtain ⟨a1, a2⟩ := ha j q hq
      have hqD : q ≠ D := fun z => nD (by rw [← z]; exact List.mem_of_getElem? hq)
      exact ⟨a1, by rw [upd_ne hqD]; exact s2 _ _ a2⟩
    · have hj2 : j = as.length := by
        have := (List.getElem?_eq_some_iff.mp hq).1
        rw [List.length_append] at this
        simp at this
        omega
      rw [hj2, List.getElem?_append_right (Nat.le_refl _)] at hq
      simp at hq
      subst hq
      refine ⟨s1.free hp, ?_⟩
      rw [upd_ne hDp, hj2, hl]
      exact h2
/-- over a list, the element a function of the item -/
theorem comp_list {K : PySem.W.Frag} {a : Addr} {xs : List V} {σ : L2.St} {sl : Nat} {te : TE} {tt : TT} {H1 : Hp} {D : Addr} {Qd : Hp → Prop} (hD : H1 D = none) (hx : SqL K H1 a xs) (f : V → V) (t : V → Bool) (hn : xs.length ≤ 1000000)
    (ht : ∀ x H, x ∈ xs → Same H1 H → ∀ Q : Bool → Hp → Prop, (∀ H', Same H H' → Q (t x) H') → tt (σ.set sl (some x)) H Q)
    (hs : ∀ x H, x ∈ xs → t x = true → Same H1 H → ∀ Q : VK, (∀ H', Same H H' → Q (f x) H') → te (σ.set sl (some x)) H Q)
    (hd : ∀ H, Same H1 H → H D = some (.lst ((xs.filter t).map f)) → Qd H) :
    ∃ W : Nat → Nat → Hp → Prop, (∃ m, W 0 m (upd H1 D (.lst []))) ∧ ∀ i m H, W i m H →
      ((Itl K a).stop i H ∧ Qd H) ∨ ((Itl K a).go i H ∧ ∃ Nx : Hp → Prop, (∀ H', Nx H' → ∃ m', m' < m ∧ W (i + 1) m' H') ∧ ∀ x H', (Itl K a).yld i H x H' → gName sl x (wipe σ [sl]) H' fun σ2 H2 => wipe σ2 [sl] = wipe σ [sl] ∧ tt σ2 H2 fun b H3 =>
        if b = true then te σ2 H3 fun y H4 => ∃ acc, H4 D = some (.lst acc) ∧ acc.length < sizeLine ∧ Nx (upd H4 D (.lst (acc ++ [y]))) else Nx H3) := by
  refine lc_list (K := K) (a := a) (xs := xs) (fun i H => Same H1 H ∧ H D = some (.lst (((xs.take i).filter t).map f))) ⟨same_new hD, upd_same⟩ (fun i H _ ⟨s1, _⟩ => s1.seq hx) (fun i x H hi ⟨s1, h1⟩ => ?_) (fun H ⟨s1, h1⟩ => hd H s1 (by rw [List.take_length] at h1; exact h1))
  refine ⟨wipe_one, ?_⟩
  rw [set_wipe]
  have hm : x ∈ xs := List.mem_of_getElem? hi
  have hlen : i < xs.length := (List.getElem?_eq_some_iff.mp hi).1
  have e0 : xs.take (i + 1) = xs.take i ++ [x] := by
    rw [List.take_add_one, hi]
    rfl
  refine ht x H hm s1 _ fun H' s2 => ?_
  have s3 : Same H1 H' := s1.trans s2
  by_cases c : t x = true
  · rw [c]
    refine iteT ?_
    refine hs x H' hm c s3 _ fun H2 s4 => ⟨_, s4 _ _ (s2 _ _ h1), sz_lt (by
      rw [List.length_map]
      have := List.length_filter_le t (xs.take i)
      rw [List.length_take] at this
      omega), fun b o e => ?_, ?_⟩
    · rw [upd_ne (ne_of_none e hD)]
      exact s4 b o (s3 b o e)
    · rw [upd_same, e0, List.filter_append, List.map_append, List.filter_cons_of_pos c]
      rfl
  · have c' : t x = false := by simpa using c
    rw [c']
    refine iteF ⟨s3, ?_⟩
    rw [e0, List.filter_append, List.filter_cons_of_neg c]
    rw [List.filter_nil, List.append_nil]
    exact s2 _ _ h1
theorem yes_ok {σ : L2.St} {H : Hp} {Q : Bool → Hp → Prop} (h : ∀ H', Same H H' → Q true H') : tYes σ H Q := h H (Same.refl H)
/-- an item of a list by a place that lies in it -/
theorem atI_of {α : Type} {xs : List α} {i : Int} {j : Nat} {x : α} (e : i = (j : Int)) (h : xs[j]? = some x) : atI xs i = some x := by
  have hj : j < xs.length := (List.getElem?_eq_some_iff.mp h).1
  subst e
  unfold atI ixN
  rw [if_pos (by omega), if_pos (by omega)]
  show xs[((j : Nat) : Int).toNat]? = some x
  rw [Int.toNat_natCast]
  exact h
theorem ixN_of {n : Nat} {i : Int} {j : Nat} (e : i = (j : Int)) (h : j < n) : ixN n i = some j := by
  subst e
  unfold ixN
  rw [if_pos (by omega), if_pos (by omega), Int.toNat_natCast]
theorem rm_get {α : Type} {f : Nat → α} {n j : Nat} (h : j < n) : ((List.range n).map f)[j]? = some (f j) := by
  rw [List.getElem?_map, List.getElem?_range h]
  rfl
theorem rm_set {α : Type} {f : Nat → α} {n j : Nat} {v : α} : ((List.range n).map f).set j v = (List.range n).map (fun i => if i = j then v else f i) := by
  apply List.ext_getElem?
  intro i
  rw [List.getElem?_set, List.getElem?_map, List.getElem?_map]
  by_cases h : j = i
  · subst h
    simp only [if_true, List.length_map, List.length_range]
    by_cases hj : j < n
    · rw [if_pos hj, List.getElem?_range hj]
      show some v = some (if j = j then v else f j)
      rw [if_pos rfl]
    · rw [if_neg hj, List.getElem?_eq_none (by simpa using hj)]
      rfl
  · rw [if_neg h]
    by_cases hi : i < n
    · rw [List.getElem?_range hi]
      show some (f i) = some (if i = j then v else f i)
      rw [if_neg (fun e => h e.symm)]
    · rw [List.getElem?_eq_none (by simpa using hi)]
      rfl
end Rb
namespace Rb
open PySem PySem.Spec PyProof.Rows L2
/-! ### rules whose reading names the written part by a letter (for a comprehension's block) -/
section
variable {X : Cx}
theorem ixTK (K : PySem.W.Frag) (h : X.K = K := by rfl) : IxR X (rIxT K) := by subst h; exact ix_tup
theorem ixLK (K : PySem.W.Frag) (h : X.K = K := by rfl) : IxR X (rIxL K) := by subst h; exact ix_list
theorem slTK (K : PySem.W.Frag) (h : X.K = K := by rfl) : SlR X (rSlT K) := by subst h; exact sl_tup
theorem slLK (K : PySem.W.Frag) (h : X.K = K := by rfl) : SlR X (rSlL K) := by subst h; exact sl_list
theorem inK (K : PySem.W.Frag) (h : X.K = K := by rfl) : OpR X (compareOp .In) (rIn K false) := by subst h; exact op_in_seq
theorem lenK (K : PySem.W.Frag) (h : X.K = K := by rfl) : CallR X (.builtin "len") (fun xs H Q => ∃ p ys, xs = [.ref p] ∧ (SqL K H p ys ∨ SqT K H p ys) ∧ Q (.int ys.length) H) := by subst h; exact call_len_seq
theorem listK (K : PySem.W.Frag) (h : X.K = K := by rfl) : CallR X (.type "list") (fun xs H Q => ∃ p ys, xs = [.ref p] ∧ (SqL K H p ys ∨ SqT K H p ys) ∧ ∀ l, H l = none → Q (.ref l) (upd H l (.lst ys))) := by subst h; exact call_list_of
theorem pe_fldK (K : PySem.W.Frag) {e : Expr} {ta : TE} {f : Str} {pos : Pos} (he : PE X e ta) (hb : attributeBase e f X.env (eval e X.env) = eval e X.env) (h : X.K = K := by rfl) : PE X (.Attribute e f pos) (tFld K ta f) := by subst h; exact pe_fld he hb
end
end Rb
end

section
set_option Elab.async false
set_option linter.all false
set_option maxRecDepth 100000
set_option maxHeartbeats 4000000
namespace Rb
open PySem PySem.Spec PyProof.Rows L2

def sp_kept (K : PySem.W.Frag) : Sp := fun vs H Q _ => ∃ (n : Int), vs = [.int n] ∧ Q (.int (kept n)) H
theorem sc_kept : FnScope ["number"] ["number"] (defScope s_kept) := ⟨rfl, rfl, rfl, by decide +kernel, rfl, by decide +kernel, by decide +kernel⟩
theorem ok_kept {P : Program} {w : World} {K : PySem.W.Frag} {mg : Str → Option Value} {base : Heap} (T : Txt w K mg) : FnOk P w K mg base CX0 1 (ad_kept K) (fdOf K (ad_kept K)) ["number"] (sp_kept K) := by
  refine T.f_kept.ok sc_kept (fun vs H Q E h => ?_) (fun cdv A outer s H vs Q E hr h => ?_)
  · obtain ⟨_, rfl, _⟩ := h
    rfl
  · have hu := hu_of hr
    have nd := sc_kept.nd
    refine ⟨_, PSs.nox ((pss_one (ps_ret (pe_op op_sub (pe_op op_mod (pe_op op_add (pv 0) (pe_gi T.i_HALF rfl)) (pe_op op_mul pe_int (pe_gi T.i_HALF rfl))) (pe_gi T.i_HALF rfl))))), ?_⟩
    obtain ⟨n, rfl, k⟩ := h
    exact ⟨_, rfl, _, _, rfl, rfl, _, _, rfl, rfl, .inl ⟨by decide, by decide⟩, _, _, rfl, rfl, (by show (0 : Int) < _; decide), _, _, rfl, rfl, k⟩
theorem cal_kept {P : Program} {w : World} {K : PySem.W.Frag} {mg : Str → Option Value} {base : Heap} (T : Txt w K mg) : Cal P w K mg base 1 "kept" ["number"] (sp_kept K) := ⟨_, _, ok_kept T, T.g_kept, T.f_kept.kp, T.f_kept.bindsN (ps := ["number"]) fun _ _ _ _ _ _ us hl => match us, hl with | [_], _ => rfl⟩
def sp_by_bits (K : PySem.W.Frag) : Sp := fun vs H Q _ => ∃ (s : Str) (l r : Int), vs = [.str s, .int l, .int r] ∧ Q (.int (if s = "&" then Builtin.bitAnd l r else if s = "|" then Builtin.bitOr l r else Builtin.bitXor l r)) H
theorem sc_by_bits : FnScope ["sign", "left", "right"] ["sign", "left", "right"] (defScope s_by_bits) := ⟨rfl, rfl, rfl, by decide +kernel, rfl, by decide +kernel, by decide +kernel⟩
theorem ok_by_bits {P : Program} {w : World} {K : PySem.W.Frag} {mg : Str → Option Value} {base : Heap} (T : Txt w K mg) : FnOk P w K mg base CX0 1 (ad_by_bits K) (fdOf K (ad_by_bits K)) ["sign", "left", "right"] (sp_by_bits K) := by
  refine T.f_by_bits.ok sc_by_bits (fun vs H Q E h => ?_) (fun cdv A outer s H vs Q E hr h => ?_)
  · obtain ⟨_, _, _, rfl, _⟩ := h
    rfl
  · have hu := hu_of hr
    have nd := sc_by_bits.nd
    refine ⟨_, PSs.nox ((pss_cons (ps_if (pt_cmpR op_eq (pv 0) pe_str (nomark _))
      (pss_one (ps_ret (pe_op op_and (pv 1) (pv 2))))
      pss_nil)
      (pss_cons (ps_if (pt_cmpR op_eq (pv 0) pe_str (nomark _))
      (pss_one (ps_ret (pe_op op_or (pv 1) (pv 2))))
      pss_nil)
      (pss_one (ps_ret (pe_op op_xor (pv 1) (pv 2))))))), ?_⟩
    obtain ⟨s, l, r, rfl, k⟩ := h
    refine ⟨_, rfl, rfl, _, rfl, iteS (fun e => ?_) (fun e => ?_)⟩
    · rw [if_pos e] at k
      exact ⟨_, rfl, _, rfl, _, _, rfl, rfl, k⟩
    rw [if_neg e] at k
    refine ⟨_, rfl, rfl, _, rfl, iteS (fun e => ?_) (fun e => ?_)⟩
    · rw [if_pos e] at k
      exact ⟨_, rfl, _, rfl, _, _, rfl, rfl, k⟩
    rw [if_neg e] at k
    exact ⟨_, rfl, _, rfl, _, _, rfl, rfl, k⟩
theorem cal_by_bits {P : Program} {w : World} {K : PySem.W.Frag} {mg : Str → Option Value} {base : Heap} (T : Txt w K mg) : Cal P w K mg base 1 "by_bits" ["sign", "left", "right"] (sp_by_bits K) := ⟨_, _, ok_by_bits T, T.g_by_bits, T.f_by_bits.kp, T.f_by_bits.bindsN (ps := ["sign", "left", "right"]) fun _ _ _ _ _ _ us hl => match us, hl with | [_, _, _], _ => rfl⟩
def sp_free (K : PySem.W.Frag) : Sp := fun vs H Q _ => ∃ (s : Str), vs = [.str s] ∧ Q (.bl (decide (s ≠ "chain" ∧ s ≠ "capped"))) H
theorem sc_free : FnScope ["fold"] ["fold"] (defScope s_free) := ⟨rfl, rfl, rfl, by decide +kernel, rfl, by decide +kernel, by decide +kernel⟩
theorem ok_free {P : Program} {w : World} {K : PySem.W.Frag} {mg : Str → Option Value} {base : Heap} (T : Txt w K mg) : FnOk P w K mg base CX0 1 (ad_free K) (fdOf K (ad_free K)) ["fold"] (sp_free K) := by
  refine T.f_free.ok sc_free (fun vs H Q E h => ?_) (fun cdv A outer s H vs Q E hr h => ?_)
  · obtain ⟨_, rfl, _⟩ := h
    rfl
  · have hu := hu_of hr
    have nd := sc_free.nd
    refine ⟨_, PSs.nox ((pss_one (ps_ret (pe_and (pe_cmpR op_ne (pv 0) pe_str (nomark _)) (pe_one (pe_cmpR op_ne (pv 0) pe_str (nomark _))))))), ?_⟩
    obtain ⟨s, rfl, k⟩ := h
    refine ⟨_, rfl, rfl, _, rfl, iteN (fun e => ?_) (fun e => ?_)⟩
    · refine ⟨_, rfl, rfl, ?_⟩
      have e2 : decide (s ≠ "chain" ∧ s ≠ "capped") = !decide (V.str s = V.str "capped") := by
        have e1 : s ≠ "chain" := fun q => e (congrArg V.str q)
        by_cases q : s = "capped"
        · simp [q]
        · simp [q, e1]
      rw [e2] at k
      exact k
    · have e1 : s = "chain" := V.str.inj e
      have e2 : decide (s ≠ "chain" ∧ s ≠ "capped") = false := by simp [e1]
      rw [e2] at k
      exact k
theorem cal_free {P : Program} {w : World} {K : PySem.W.Frag} {mg : Str → Option Value} {base : Heap} (T : Txt w K mg) : Cal P w K mg base 1 "free" ["fold"] (sp_free K) := ⟨_, _, ok_free T, T.g_free, T.f_free.kp, T.f_free.bindsN (ps := ["fold"]) fun _ _ _ _ _ _ us hl => match us, hl with | [_], _ => rfl⟩
end Rb
end

section
set_option Elab.async false
set_option linter.all false
set_option maxRecDepth 100000
set_option maxHeartbeats 4000000
namespace Rb
open PySem PySem.Spec PyProof.Rows L2

def sp_divided (K : PySem.W.Frag) : Sp := fun vs H Q E => ∃ (s : Str) (l r : Int), vs = [.str s, .int l, .int r] ∧ KR r ∧ (r = 0 → E (.ref (He.ga K "ByNought")) none H) ∧
  (r ≠ 0 → ∀ H', Same H H' → Q (.int (if s = "/" then kept (l.fdiv r) else l.fmod r)) H')
theorem sc_divided : FnScope ["sign", "left", "right", "quotient", "rest"] ["sign", "left", "right"] (defScope s_divided) := ⟨rfl, rfl, rfl, by decide +kernel, rfl, by decide +kernel, by decide +kernel⟩
theorem ok_divided {P : Program} {w : World} {K : PySem.W.Frag} {mg : Str → Option Value} {base : Heap} (T : Txt w K mg) : FnOk P w K mg base (L2.CX P w) 2 (ad_divided K) (fdOf K (ad_divided K)) ["sign", "left", "right"] (sp_divided K) := by
  have C_kept := cal_kept (P := P) (base := base) T
  refine T.f_divided.ok sc_divided (fun vs H Q E h => ?_) (fun cdv A outer s H vs Q E hr h => ?_)
  · obtain ⟨_, _, _, rfl, _⟩ := h
    rfl
  · have hu := hu_of hr
    have nd := sc_divided.nd
    refine ⟨_, ((pss_cons (ps_if (pt_cmpR op_eq (pv 2) pe_int (nomark _))
      (pss_one (ps_raise rfl (takes_of rfl rfl rfl rfl) (pmk_own PySem.F.excBase_ValueError T.nought.1 T.g_ByNought T.nought.2.1 (raises_own T.nought.2.2.1 T.nought.2.2.2.1) rfl)))
      pss_nil)
      (pss_cons (ps_asg (pe_callB call_divmodX rfl T.b_divmod (by decide +kernel) (pa_cons (pv 1) (pa_cons (pv 2) pa_nil))) (pg_tup rfl (pgs_cons (pg_name (i := 3) nd rfl (Or.inl rfl)) (pgs_cons (pg_name (i := 4) nd rfl (Or.inl rfl)) pgs_nil))))
      (pss_cons (ps_if (pt_cmpR op_eq (pv 0) pe_str (nomark _))
      (pss_one (ps_ret (pe_cl C_kept (hr.mono (by decide)) (pa_cons (pv 3) pa_nil))))
      pss_nil)
      (pss_one (ps_ret (pv 4))))))), ?_⟩
    obtain ⟨s, l, r, rfl, hk, kE, kQ⟩ := h
    refine ⟨_, rfl, rfl, _, rfl, iteI (fun e => ?_) (fun e => ?_)⟩
    · exact kE e
    refine ⟨_, rfl, _, rfl, _, _, rfl, ⟨e, hk.log⟩, fun p hp => ?_⟩
    have s1 : Same H (upd H p (.tup [.int (l.fdiv r), .int (l.fmod r)])) := fun b o q => by rw [upd_ne (ne_of_none q hp)]; exact q
    have k := kQ e _ s1
    refine ⟨p, _, rfl, SqT.of upd_same, rfl, _, _, rfl, _, _, rfl, rfl, ?_⟩
    refine ⟨_, rfl, rfl, _, rfl, iteS (fun e => ?_) (fun e => ?_)⟩
    · rw [if_pos e] at k
      exact ⟨_, rfl, _, rfl, k⟩
    · rw [if_neg e] at k
      exact ⟨_, rfl, k⟩
theorem cal_divided {P : Program} {w : World} {K : PySem.W.Frag} {mg : Str → Option Value} {base : Heap} (T : Txt w K mg) : CalX P w K mg base 2 "divided" (ad_divided K) (fdOf K (ad_divided K)) ["sign", "left", "right"] (sp_divided K) := ⟨ok_divided T, T.g_divided, T.f_divided.kp, T.f_divided.bindsN (ps := ["sign", "left", "right"]) fun _ _ _ _ _ _ us hl => match us, hl with | [_, _, _], _ => rfl⟩
theorem or_sign {s : Str} {A B : Prop} {tA tB : Prop} : True := trivial
/-- done with a sign that never refuses -/
def sp_done0 (K : PySem.W.Frag) : Sp := fun vs H Q _ => ∃ (s : Str) (l r : Int), vs = [.str s, .int l, .int r] ∧ KR l ∧ KR r ∧ ¬ (s = "/" ∨ s = "rest") ∧ ∃ n, sgn s l r = some n ∧ Q (.int n) H
theorem sc_done0 : FnScope ["sign", "left", "right"] ["sign", "left", "right"] (defScope s_done) := ⟨rfl, rfl, rfl, by decide +kernel, rfl, by decide +kernel, by decide +kernel⟩
theorem ok_done0 {P : Program} {w : World} {K : PySem.W.Frag} {mg : Str → Option Value} {base : Heap} (T : Txt w K mg) : FnOk P w K mg base CX0 3 (ad_done K) (fdOf K (ad_done K)) ["sign", "left", "right"] (sp_done0 K) := by
  have C_by_bits := cal_by_bits (P := P) (base := base) T
  have C_kept := cal_kept (P := P) (base := base) T
  refine T.f_done.ok sc_done0 (fun vs H Q E h => ?_) (fun cdv A outer s H vs Q E hr h => ?_)
  · obtain ⟨_, _, _, rfl, _⟩ := h
    rfl
  · have hu := hu_of hr
    have nd := sc_done0.nd
    refine ⟨_, PSs.nox ((pss_cons (ps_if (pt_cmpR op_eq (pv 0) pe_str (nomark _))
      (pss_one (ps_ret (pe_cl C_kept (hr.mono (by decide)) (pa_cons (pe_op op_add (pv 1) (pv 2)) pa_nil))))
      pss_nil)
      (pss_cons (ps_if (pt_cmpR op_eq (pv 0) pe_str (nomark _))
      (pss_one (ps_ret (pe_cl C_kept (hr.mono (by decide)) (pa_cons (pe_op op_sub (pv 1) (pv 2)) pa_nil))))
      pss_nil)
      (pss_cons (ps_if (pt_cmpR op_eq (pv 0) pe_str (nomark _))
      (pss_one (ps_ret (pe_cl C_kept (hr.mono (by decide)) (pa_cons (pe_op op_mul (pv 1) (pv 2)) pa_nil))))
      pss_nil)
      (pss_cons (ps_if (PW.pt (pw_or (pt_cmpR op_eq (pv 0) pe_str (nomark _)) (pw_or1 (pt_cmpR op_eq (pv 0) pe_str (nomark _)))))
      (pss_one ps_never)
      pss_nil)
      (pss_cons (ps_if (pt_cmpR op_eq (pv 0) pe_str (nomark _))
      (pss_one (ps_ret (pe_callB (call_min2 rfl) rfl T.b_min (by decide +kernel) (pa_cons (pv 1) (pa_cons (pv 2) pa_nil)))))
      pss_nil)
      (pss_cons (ps_if (pt_cmpR op_eq (pv 0) pe_str (nomark _))
      (pss_one (ps_ret (pe_callB (call_max2 rfl) rfl T.b_max (by decide +kernel) (pa_cons (pv 1) (pa_cons (pv 2) pa_nil)))))
      pss_nil)
      (pss_cons (ps_if (pt_cmpR op_eq (pv 0) pe_str (nomark _))
      (pss_one (ps_ret (pe_ifExp (pt_cmpR op_lt (pv 1) (pv 2) (nomark _)) pe_int pe_int)))
      pss_nil)
      (pss_cons (ps_if (pt_cmpR op_eq (pv 0) pe_str (nomark _))
      (pss_one (ps_ret (pe_ifExp (pt_cmpR op_eq (pv 1) (pv 2) (nomark _)) pe_int pe_int)))
      pss_nil)
      (pss_one (ps_ret (pe_cl C_by_bits (hr.mono (by decide)) (pa_cons (pv 0) (pa_cons (pv 1) (pa_cons (pv 2) pa_nil))))))))))))))), ?_⟩
    obtain ⟨s, l, r, rfl, hl, hr2, hs, n, e, k⟩ := h
    unfold sgn at e
    refine ⟨_, rfl, rfl, _, rfl, iteS (fun c => ?_) (fun c => ?_)⟩
    · rw [if_pos c] at e
      cases e
      exact ⟨_, rfl, _, rfl, _, _, rfl, rfl, _, rfl, k⟩
    rw [if_neg c] at e
    refine ⟨_, rfl, rfl, _, rfl, iteS (fun c => ?_) (fun c => ?_)⟩
    · rw [if_pos c] at e
      cases e
      exact ⟨_, rfl, _, rfl, _, _, rfl, rfl, _, rfl, k⟩
    rw [if_neg c] at e
    refine ⟨_, rfl, rfl, _, rfl, iteS (fun c => ?_) (fun c => ?_)⟩
    · rw [if_pos c] at e
      cases e
      exact ⟨_, rfl, _, rfl, _, _, rfl, rfl, hl.cmul _, _, rfl, k⟩
    rw [if_neg c, if_neg hs] at e
    refine ⟨_, rfl, rfl, _, rfl, iteS (fun c => (hs (.inl c)).elim) (fun c => ?_)⟩
    refine ⟨_, rfl, rfl, _, rfl, iteS (fun c => (hs (.inr c)).elim) (fun c => ?_)⟩
    refine ⟨_, rfl, rfl, _, rfl, iteS (fun c => ?_) (fun c => ?_)⟩
    · rw [if_pos c] at e
      cases e
      exact ⟨_, rfl, _, rfl, _, _, rfl, k⟩
    rw [if_neg c] at e
    refine ⟨_, rfl, rfl, _, rfl, iteS (fun c => ?_) (fun c => ?_)⟩
    · rw [if_pos c] at e
      cases e
      exact ⟨_, rfl, _, rfl, _, _, rfl, k⟩
    rw [if_neg c] at e
    refine ⟨_, rfl, rfl, _, rfl, iteS (fun c => ?_) (fun c => ?_)⟩
    · rw [if_pos c] at e
      cases e
      refine ⟨_, rfl, _, rfl, _, _, rfl, rfl, _, rfl, iteD (fun d => ?_) (fun d => ?_)⟩
      · rw [if_pos d] at k
        exact k
      · rw [if_neg d] at k
        exact k
    rw [if_neg c] at e
    refine ⟨_, rfl, rfl, _, rfl, iteS (fun c => ?_) (fun c => ?_)⟩
    · rw [if_pos c] at e
      cases e
      refine ⟨_, rfl, _, rfl, rfl, _, rfl, iteI (fun d => ?_) (fun d => ?_)⟩
      · rw [if_pos d] at k
        exact k
      · rw [if_neg d] at k
        exact k
    rw [if_neg c] at e
    refine ⟨_, rfl, _, rfl, _, rfl, _, _, _, rfl, ?_⟩
    by_cases c1 : s = "&"
    · rw [if_pos c1] at e ⊢
      cases e
      exact k
    rw [if_neg c1] at e ⊢
    by_cases c2 : s = "|"
    · rw [if_pos c2] at e ⊢
      cases e
      exact k
    rw [if_neg c2] at e ⊢
    cases e
    exact k
theorem cal_done0 {P : Program} {w : World} {K : PySem.W.Frag} {mg : Str → Option Value} {base : Heap} (T : Txt w K mg) : Cal P w K mg base 3 "done" ["sign", "left", "right"] (sp_done0 K) := ⟨_, _, ok_done0 T, T.g_done, T.f_done.kp, T.f_done.bindsN (ps := ["sign", "left", "right"]) fun _ _ _ _ _ _ us hl => match us, hl with | [_, _, _], _ => rfl⟩
def sp_done (K : PySem.W.Frag) : Sp := fun vs H Q E => ∃ (s : Str) (l r : Int), vs = [.str s, .int l, .int r] ∧ KR l ∧ KR r ∧ (sgn s l r = none → E (.ref (He.ga K "ByNought")) none H) ∧
  (∀ n, sgn s l r = some n → ∀ H', Same H H' → Q (.int n) H')
theorem sc_done : FnScope ["sign", "left", "right"] ["sign", "left", "right"] (defScope s_done) := ⟨rfl, rfl, rfl, by decide +kernel, rfl, by decide +kernel, by decide +kernel⟩
theorem ok_done {P : Program} {w : World} {K : PySem.W.Frag} {mg : Str → Option Value} {base : Heap} (T : Txt w K mg) : FnOk P w K mg base (L2.CX P w) 3 (ad_done K) (fdOf K (ad_done K)) ["sign", "left", "right"] (sp_done K) := by
  have C_by_bits := cal_by_bits (P := P) (base := base) T
  have C_divided := cal_divided (P := P) (base := base) T
  have C_kept := cal_kept (P := P) (base := base) T
  refine T.f_done.ok sc_done (fun vs H Q E h => ?_) (fun cdv A outer s H vs Q E hr h => ?_)
  · obtain ⟨_, _, _, rfl, _⟩ := h
    rfl
  · have hu := hu_of hr
    have nd := sc_done.nd
    refine ⟨_, ((pss_cons (ps_if (pt_cmpR op_eq (pv 0) pe_str (nomark _))
      (pss_one (ps_ret (pe_cl C_kept (hr.mono (by decide)) (pa_cons (pe_op op_add (pv 1) (pv 2)) pa_nil))))
      pss_nil)
      (pss_cons (ps_if (pt_cmpR op_eq (pv 0) pe_str (nomark _))
      (pss_one (ps_ret (pe_cl C_kept (hr.mono (by decide)) (pa_cons (pe_op op_sub (pv 1) (pv 2)) pa_nil))))
      pss_nil)
      (pss_cons (ps_if (pt_cmpR op_eq (pv 0) pe_str (nomark _))
      (pss_one (ps_ret (pe_cl C_kept (hr.mono (by decide)) (pa_cons (pe_op op_mul (pv 1) (pv 2)) pa_nil))))
      pss_nil)
      (pss_cons (ps_if (PW.pt (pw_or (pt_cmpR op_eq (pv 0) pe_str (nomark _)) (pw_or1 (pt_cmpR op_eq (pv 0) pe_str (nomark _)))))
      (pss_one (ps_ret (pe_callS C_divided.ok (hr.mono (by decide)) rfl C_divided.gm C_divided.kp C_divided.bd (fun σ => passAt (takes_of rfl rfl rfl rfl) σ) (pa_cons (pv 0) (pa_cons (pv 1) (pa_cons (pv 2) pa_nil))))))
      pss_nil)
      (pss_cons (ps_if (pt_cmpR op_eq (pv 0) pe_str (nomark _))
      (pss_one (ps_ret (pe_callB (call_min2 rfl) rfl T.b_min (by decide +kernel) (pa_cons (pv 1) (pa_cons (pv 2) pa_nil)))))
      pss_nil)
      (pss_cons (ps_if (pt_cmpR op_eq (pv 0) pe_str (nomark _))
      (pss_one (ps_ret (pe_callB (call_max2 rfl) rfl T.b_max (by decide +kernel) (pa_cons (pv 1) (pa_cons (pv 2) pa_nil)))))
      pss_nil)
      (pss_cons (ps_if (pt_cmpR op_eq (pv 0) pe_str (nomark _))
      (pss_one (ps_ret (pe_ifExp (pt_cmpR op_lt (pv 1) (pv 2) (nomark _)) pe_int pe_int)))
      pss_nil)
      (pss_cons (ps_if (pt_cmpR op_eq (pv 0) pe_str (nomark _))
      (pss_one (ps_ret (pe_ifExp (pt_cmpR op_eq (pv 1) (pv 2) (nomark _)) pe_int pe_int)))
      pss_nil)
      (pss_one (ps_ret (pe_cl C_by_bits (hr.mono (by decide)) (pa_cons (pv 0) (pa_cons (pv 1) (pa_cons (pv 2) pa_nil))))))))))))))), ?_⟩
    obtain ⟨s, l, r, rfl, hl, hr2, kE, kQ⟩ := h
    unfold sgn at kE kQ
    refine ⟨_, rfl, rfl, _, rfl, iteS (fun c => ?_) (fun c => ?_)⟩
    · rw [if_pos c] at kQ
      exact ⟨_, rfl, _, rfl, _, _, rfl, rfl, _, rfl, kQ _ rfl _ (Same.refl _)⟩
    rw [if_neg c] at kQ kE
    refine ⟨_, rfl, rfl, _, rfl, iteS (fun c => ?_) (fun c => ?_)⟩
    · rw [if_pos c] at kQ
      exact ⟨_, rfl, _, rfl, _, _, rfl, rfl, _, rfl, kQ _ rfl _ (Same.refl _)⟩
    rw [if_neg c] at kQ kE
    refine ⟨_, rfl, rfl, _, rfl, iteS (fun c => ?_) (fun c => ?_)⟩
    · rw [if_pos c] at kQ
      exact ⟨_, rfl, _, rfl, _, _, rfl, rfl, hl.cmul _, _, rfl, kQ _ rfl _ (Same.refl _)⟩
    rw [if_neg c] at kQ kE
    have go : (s = "/" ∨ s = "rest") → sp_divided K [.str s, .int l, .int r] H Q E := by
      intro hs
      rw [if_pos hs] at kQ kE
      refine ⟨_, _, _, rfl, hr2, fun z => kE (if_pos z), fun z H' sH => ?_⟩
      rw [if_neg z] at kQ
      by_cases d : s = "/"
      · rw [if_pos d] at kQ ⊢
        exact kQ _ rfl _ sH
      · rw [if_neg d] at kQ ⊢
        exact kQ _ rfl _ sH
    by_cases hs : s = "/" ∨ s = "rest"
    · rcases hs with hs1 | hs1
      · refine ⟨_, rfl, rfl, _, rfl, iteS (fun c => ?_) (fun c => (c hs1).elim)⟩
        exact ⟨_, rfl, _, rfl, _, rfl, go (.inl hs1)⟩
      · refine ⟨_, rfl, rfl, _, rfl, iteS (fun c => ⟨_, rfl, _, rfl, _, rfl, go (.inl c)⟩) (fun c => ?_)⟩
        refine ⟨_, rfl, rfl, _, rfl, iteS (fun c => ?_) (fun c => (c hs1).elim)⟩
        exact ⟨_, rfl, _, rfl, _, rfl, go (.inr hs1)⟩
    rw [if_neg hs] at kQ kE
    refine ⟨_, rfl, rfl, _, rfl, iteS (fun c => (hs (.inl c)).elim) (fun c => ?_)⟩
    refine ⟨_, rfl, rfl, _, rfl, iteS (fun c => (hs (.inr c)).elim) (fun c => ?_)⟩
    refine ⟨_, rfl, rfl, _, rfl, iteS (fun c => ?_) (fun c => ?_)⟩
    · rw [if_pos c] at kQ
      exact ⟨_, rfl, _, rfl, _, _, rfl, kQ _ rfl _ (Same.refl _)⟩
    rw [if_neg c] at kQ
    refine ⟨_, rfl, rfl, _, rfl, iteS (fun c => ?_) (fun c => ?_)⟩
    · rw [if_pos c] at kQ
      exact ⟨_, rfl, _, rfl, _, _, rfl, kQ _ rfl _ (Same.refl _)⟩
    rw [if_neg c] at kQ
    refine ⟨_, rfl, rfl, _, rfl, iteS (fun c => ?_) (fun c => ?_)⟩
    · rw [if_pos c] at kQ
      have k := kQ _ rfl _ (Same.refl _)
      refine ⟨_, rfl, _, rfl, _, _, rfl, rfl, _, rfl, iteD (fun d => ?_) (fun d => ?_)⟩
      · rw [if_pos d] at k
        exact k
      · rw [if_neg d] at k
        exact k
    rw [if_neg c] at kQ
    refine ⟨_, rfl, rfl, _, rfl, iteS (fun c => ?_) (fun c => ?_)⟩
    · rw [if_pos c] at kQ
      have k := kQ _ rfl _ (Same.refl _)
      refine ⟨_, rfl, _, rfl, rfl, _, rfl, iteI (fun d => ?_) (fun d => ?_)⟩
      · rw [if_pos d] at k
        exact k
      · rw [if_neg d] at k
        exact k
    rw [if_neg c] at kQ
    refine ⟨_, rfl, _, rfl, _, rfl, _, _, _, rfl, ?_⟩
    by_cases c1 : s = "&"
    · rw [if_pos c1] at kQ ⊢
      exact kQ _ rfl _ (Same.refl _)
    rw [if_neg c1] at kQ ⊢
    by_cases c2 : s = "|"
    · rw [if_pos c2] at kQ ⊢
      exact kQ _ rfl _ (Same.refl _)
    rw [if_neg c2] at kQ ⊢
    exact kQ _ rfl _ (Same.refl _)
theorem cal_done {P : Program} {w : World} {K : PySem.W.Frag} {mg : Str → Option Value} {base : Heap} (T : Txt w K mg) : CalX P w K mg base 3 "done" (ad_done K) (fdOf K (ad_done K)) ["sign", "left", "right"] (sp_done K) := ⟨ok_done T, T.g_done, T.f_done.kp, T.f_done.bindsN (ps := ["sign", "left", "right"]) fun _ _ _ _ _ _ us hl => match us, hl with | [_, _, _], _ => rfl⟩
def sp_joined (K : PySem.W.Frag) : Sp := fun vs H Q _ => ∃ (s : Str) (l r : Int), vs = [.str s, .int l, .int r] ∧ Fold9 s ∧ KR l ∧ KR r ∧ Q (.int (jn s l r)) H
theorem sc_joined : FnScope ["fold", "run", "number"] ["fold", "run", "number"] (defScope s_joined) := ⟨rfl, rfl, rfl, by decide +kernel, rfl, by decide +kernel, by decide +kernel⟩
theorem ok_joined {P : Program} {w : World} {K : PySem.W.Frag} {mg : Str → Option Value} {base : Heap} (T : Txt w K mg) : FnOk P w K mg base CX0 4 (ad_joined K) (fdOf K (ad_joined K)) ["fold", "run", "number"] (sp_joined K) := by
  have C_done0 := cal_done0 (P := P) (base := base) T
  have C_kept := cal_kept (P := P) (base := base) T
  refine T.f_joined.ok sc_joined (fun vs H Q E h => ?_) (fun cdv A outer s H vs Q E hr h => ?_)
  · obtain ⟨_, _, _, rfl, _⟩ := h
    rfl
  · have hu := hu_of hr
    have nd := sc_joined.nd
    refine ⟨_, PSs.nox ((pss_cons (ps_if (pt_cmpR op_eq (pv 0) pe_str (nomark _))
      (pss_one (ps_ret (pe_cl C_kept (hr.mono (by decide)) (pa_cons (pe_op op_add (pv 1) (pv 2)) pa_nil))))
      pss_nil)
      (pss_cons (ps_if (pt_cmpR op_eq (pv 0) pe_str (nomark _))
      (pss_one (ps_ret (pe_cl C_kept (hr.mono (by decide)) (pa_cons (pe_op op_mul (pv 1) (pv 2)) pa_nil))))
      pss_nil)
      (pss_cons (ps_if (pt_cmpR op_eq (pv 0) pe_str (nomark _))
      (pss_one (ps_ret (pe_op op_and (pv 1) (pv 2))))
      pss_nil)
      (pss_cons (ps_if (pt_cmpR op_eq (pv 0) pe_str (nomark _))
      (pss_one (ps_ret (pe_op op_or (pv 1) (pv 2))))
      pss_nil)
      (pss_cons (ps_if (pt_cmpR op_eq (pv 0) pe_str (nomark _))
      (pss_one (ps_ret (pe_op op_xor (pv 1) (pv 2))))
      pss_nil)
      (pss_cons (ps_if (pt_cmpR op_eq (pv 0) pe_str (nomark _))
      (pss_one (ps_ret (pe_cl C_kept (hr.mono (by decide)) (pa_cons (pe_op op_add (pe_op op_mul pe_int (pv 1)) (pv 2)) pa_nil))))
      pss_nil)
      (pss_cons (ps_if (pt_cmpR op_eq (pv 0) pe_str (nomark _))
      (pss_one (ps_ret (pe_callB (call_max2 rfl) rfl T.b_max (by decide +kernel) (pa_cons (pe_un un_neg (pe_gi T.i_CAP rfl)) (pa_cons (pe_callB (call_min2 rfl) rfl T.b_min (by decide +kernel) (pa_cons (pe_gi T.i_CAP rfl) (pa_cons (pe_op op_add (pv 1) (pv 2)) pa_nil))) pa_nil)))))
      pss_nil)
      (pss_one (ps_ret (pe_cl C_done0 (hr.mono (by decide)) (pa_cons (pv 0) (pa_cons (pv 1) (pa_cons (pv 2) pa_nil)))))))))))))), ?_⟩
    obtain ⟨s, l, r, rfl, hs, hl, hr2, k⟩ := h
    unfold jn at k
    refine ⟨_, rfl, rfl, _, rfl, iteS (fun c => ?_) (fun c1 => ?_)⟩
    · rw [if_pos c] at k
      exact ⟨_, rfl, _, rfl, _, _, rfl, rfl, _, rfl, k⟩
    rw [if_neg c1] at k
    refine ⟨_, rfl, rfl, _, rfl, iteS (fun c => ?_) (fun c2 => ?_)⟩
    · rw [if_pos c] at k
      exact ⟨_, rfl, _, rfl, _, _, rfl, rfl, hl.cmul _, _, rfl, k⟩
    rw [if_neg c2] at k
    refine ⟨_, rfl, rfl, _, rfl, iteS (fun c => ?_) (fun c3 => ?_)⟩
    · rw [if_pos c] at k
      exact ⟨_, rfl, _, rfl, _, _, rfl, rfl, k⟩
    rw [if_neg c3] at k
    refine ⟨_, rfl, rfl, _, rfl, iteS (fun c => ?_) (fun c4 => ?_)⟩
    · rw [if_pos c] at k
      exact ⟨_, rfl, _, rfl, _, _, rfl, rfl, k⟩
    rw [if_neg c4] at k
    refine ⟨_, rfl, rfl, _, rfl, iteS (fun c => ?_) (fun c5 => ?_)⟩
    · rw [if_pos c] at k
      exact ⟨_, rfl, _, rfl, _, _, rfl, rfl, k⟩
    rw [if_neg c5] at k
    refine ⟨_, rfl, rfl, _, rfl, iteS (fun c => ?_) (fun c6 => ?_)⟩
    · rw [if_pos c] at k
      exact ⟨_, rfl, _, _, rfl, rfl, .inl ⟨by decide, by decide⟩, _, rfl, _, _, rfl, rfl, _, rfl, k⟩
    rw [if_neg c6] at k
    refine ⟨_, rfl, rfl, _, rfl, iteS (fun c => ?_) (fun c7 => ?_)⟩
    · rw [if_pos c] at k
      exact ⟨_, rfl, _, rfl, _, rfl, _, _, rfl, rfl, _, _, rfl, _, _, rfl, k⟩
    rw [if_neg c7] at k
    refine ⟨_, rfl, _, rfl, _, rfl, ?_⟩
    rcases hs with hs | hs | hs | hs | hs | hs | hs | hs | hs
    · exact (c1 hs).elim
    · exact (c2 hs).elim
    · rw [if_pos hs] at k
      refine ⟨_, _, _, rfl, hl, hr2, by rw [hs]; decide +kernel, _, ?_, k⟩
      rw [hs]
      rfl
    · rw [if_neg (by rw [hs]; decide +kernel)] at k
      refine ⟨_, _, _, rfl, hl, hr2, by rw [hs]; decide +kernel, _, ?_, k⟩
      rw [hs]
      rfl
    · exact (c3 hs).elim
    · exact (c4 hs).elim
    · exact (c5 hs).elim
    · exact (c6 hs).elim
    · exact (c7 hs).elim
theorem cal_joined {P : Program} {w : World} {K : PySem.W.Frag} {mg : Str → Option Value} {base : Heap} (T : Txt w K mg) : Cal P w K mg base 4 "joined" ["fold", "run", "number"] (sp_joined K) := ⟨_, _, ok_joined T, T.g_joined, T.f_joined.kp, T.f_joined.bindsN (ps := ["fold", "run", "number"]) fun _ _ _ _ _ _ us hl => match us, hl with | [_, _, _], _ => rfl⟩
end Rb
end

section
set_option Elab.async false
set_option linter.all false
set_option maxRecDepth 100000
set_option maxHeartbeats 4000000
namespace Rb
open PySem PySem.Spec PyProof.Rows L2

/-- the script's number at a place -/
def cAt (ns : List Int) (k : Nat) : Int := ns.getD k 0
def lcell (ns : List Int) (k : Nat) : Int := cAt ns k % 1000003 + 1
def lmix (ns : List Int) (k salt : Nat) : Int := lcell ns k * (48271 + 1000 * (k : Int) * (k : Int) + 69621 * (salt : Int) * (salt : Int)) % 2147483647
def lsome (ns : List Int) (k salt : Nat) (many : Int) : Int := lmix ns k salt * lmix ns k salt % 2147483629 / 3 % many
def lbig (ns : List Int) (k : Nat) : Int := cAt ns k % 18446744073709551616
def lnum (ns : List Int) (k : Nat) : Int :=
  if lsome ns k 9 2 = 0 then (lbig ns k + 7 * (k : Int)) % 41 - 11
  else (lbig ns k * 6364136223846793005 + (k : Int) * (k : Int) * 1442695040888963407) % 18446744073709551616 - 9223372036854775808
theorem cm {i j : Int} (h : -18446744073709551616 < i ∧ i < 18446744073709551616) : CMul i j := .inl ⟨Int.lt_of_le_of_lt (by decide) h.1, Int.lt_of_lt_of_le h.2 (by decide)⟩
theorem cm2 {i j : Int} (h : -18446744073709551616 < j ∧ j < 18446744073709551616) : CMul i j := .inr ⟨Int.lt_of_le_of_lt (by decide) h.1, Int.lt_of_lt_of_le h.2 (by decide)⟩
theorem lcell_b (ns : List Int) (k : Nat) : 0 ≤ lcell ns k ∧ lcell ns k ≤ 1000003 := by
  unfold lcell
  omega
theorem lmix_b (ns : List Int) (k salt : Nat) : 0 ≤ lmix ns k salt ∧ lmix ns k salt < 2147483647 := by
  unfold lmix
  omega
theorem lsome_b (ns : List Int) (k salt : Nat) {many : Int} (h : 0 < many) : 0 ≤ lsome ns k salt many ∧ lsome ns k salt many < many := by
  unfold lsome
  exact ⟨Int.emod_nonneg _ (by omega), Int.emod_lt_of_pos _ h⟩
theorem lnum_kr (ns : List Int) (k : Nat) : KR (lnum ns k) := by
  unfold lnum KR
  split <;> omega
def llanes (c : Int) : Int := if c % 8 = 5 then 1 + c / 8 % 64 else 1 + c / 8 % 9
def ldust (ns : List Int) (k salt : Nat) : List Int := (List.range (lsome ns k salt 6).toNat).map fun j => lnum ns (k + 5 * j)
def sp__law_cell_at (K : PySem.W.Frag) : Sp := fun vs H Q _ => ∃ (a : Addr) (ns : List Int) (k : Nat), vs = [.ref a, .int k] ∧ SqL K H a (ns.map V.int) ∧ Q (.int (cAt ns k)) H
theorem sc__law_cell_at : FnScope ["_law_script", "_law_k"] ["_law_script", "_law_k"] (defScope s__law_cell_at) := ⟨rfl, rfl, rfl, by decide +kernel, rfl, by decide +kernel, by decide +kernel⟩
theorem ok__law_cell_at {P : Program} {w : World} {K : PySem.W.Frag} {mg : Str → Option Value} {base : Heap} (T : Txt w K mg) : FnOk P w K mg base CX0 1 (ad__law_cell_at K) (fdOf K (ad__law_cell_at K)) ["_law_script", "_law_k"] (sp__law_cell_at K) := by
  refine T.f__law_cell_at.ok sc__law_cell_at (fun vs H Q E h => ?_) (fun cdv A outer s H vs Q E hr h => ?_)
  · obtain ⟨_, _, _, rfl, _⟩ := h
    rfl
  · have hu := hu_of hr
    have nd := sc__law_cell_at.nd
    refine ⟨_, PSs.nox ((pss_cons (ps_if (pt_cmpR op_lt (pv 1) (pe_callB call_len_seq rfl T.b_len PySem.boot_len (pa_cons (pv 0) pa_nil)) (nomark _))
      (pss_one (ps_ret (pe_ix ix_list (pv 0) (pv 1) (fun _ _ => rfl))))
      pss_nil)
      (pss_one (ps_ret pe_int)))), ?_⟩
    obtain ⟨a, ns, k, rfl, hS, kQ⟩ := h
    refine ⟨_, rfl, _, rfl, a, _, rfl, .inl hS, _, _, rfl, rfl, _, rfl, iteD (fun c => ?_) (fun c => ?_)⟩
    · rw [List.length_map] at c
      have hk : k < ns.length := by omega
      refine ⟨_, rfl, _, rfl, a, _, _, _, rfl, rfl, hS, atI_of (j := k) (x := V.int (cAt ns k)) rfl ?_, kQ⟩
      unfold cAt
      rw [List.getElem?_map, List.getD_eq_getElem?_getD, List.getElem?_eq_getElem hk]
      rfl
    · rw [List.length_map] at c
      have e : cAt ns k = 0 := by
        unfold cAt
        rw [List.getD_eq_getElem?_getD, List.getElem?_eq_none (by omega)]
        rfl
      rw [e] at kQ
      exact kQ
theorem cal__law_cell_at {P : Program} {w : World} {K : PySem.W.Frag} {mg : Str → Option Value} {base : Heap} (T : Txt w K mg) : Cal P w K mg base 1 "_law_cell_at" ["_law_script", "_law_k"] (sp__law_cell_at K) := ⟨_, _, ok__law_cell_at T, T.g__law_cell_at, T.f__law_cell_at.kp, T.f__law_cell_at.bindsN (ps := ["_law_script", "_law_k"]) fun _ _ _ _ _ _ us hl => match us, hl with | [_, _], _ => rfl⟩
def sp__law_some (K : PySem.W.Frag) : Sp := fun vs H Q _ => ∃ (a : Addr) (ns : List Int) (k salt : Nat) (many : Int), vs = [.ref a, .int k, .int salt, .int many] ∧ SqL K H a (ns.map V.int) ∧ k ≤ 10000 ∧ salt ≤ 10000 ∧ 0 < many ∧ Q (.int (lsome ns k salt many)) H
theorem sc__law_some : FnScope ["_law_script", "_law_k", "_law_salt", "_law_many", "_law_cell", "_law_mixed"] ["_law_script", "_law_k", "_law_salt", "_law_many"] (defScope s__law_some) := ⟨rfl, rfl, rfl, by decide +kernel, rfl, by decide +kernel, by decide +kernel⟩
theorem ok__law_some {P : Program} {w : World} {K : PySem.W.Frag} {mg : Str → Option Value} {base : Heap} (T : Txt w K mg) : FnOk P w K mg base CX0 2 (ad__law_some K) (fdOf K (ad__law_some K)) ["_law_script", "_law_k", "_law_salt", "_law_many"] (sp__law_some K) := by
  have C__law_cell_at := cal__law_cell_at (P := P) (base := base) T
  refine T.f__law_some.ok sc__law_some (fun vs H Q E h => ?_) (fun cdv A outer s H vs Q E hr h => ?_)
  · obtain ⟨_, _, _, _, _, rfl, _⟩ := h
    rfl
  · have hu := hu_of hr
    have nd := sc__law_some.nd
    refine ⟨_, PSs.nox ((pss_cons (ps_set (i := 4) nd rfl (Or.inl rfl) (pe_op op_add (pe_op op_mod (pe_cl C__law_cell_at (hr.mono (by decide)) (pa_cons (pv 0) (pa_cons (pv 1) pa_nil))) pe_int) pe_int))
      (pss_cons (ps_set (i := 5) nd rfl (Or.inl rfl) (pe_op op_mod (pe_op op_mul (pv 4) (pe_op op_add (pe_op op_add pe_int (pe_op op_mul (pe_op op_mul pe_int (pv 1)) (pv 1))) (pe_op op_mul (pe_op op_mul pe_int (pv 2)) (pv 2)))) pe_int))
      (pss_one (ps_ret (pe_op op_mod (pe_op op_fdiv (pe_op op_mod (pe_op op_mul (pv 5) (pv 5)) pe_int) pe_int) (pv 3))))))), ?_⟩
    obtain ⟨a, ns, k, salt, many, rfl, hS, hk, hs, hm, kQ⟩ := h
    refine ⟨_, rfl, _, rfl, a, ns, k, rfl, hS, _, _, rfl, rfl, (by show (0 : Int) < _; decide), _, _, rfl, rfl, ?_⟩
    have b1 := lcell_b ns k
    have b2 := lmix_b ns k salt
    refine ⟨_, rfl, _, rfl, _, _, rfl, rfl, cm (by omega), _, rfl, _, _, rfl, rfl, cm (by omega), _, _, rfl, rfl, ?_⟩
    refine ⟨_, rfl, _, _, rfl, rfl, cm (by omega), _, rfl, _, _, rfl, rfl, cm (by omega), _, _, rfl, rfl, ?_⟩
    refine ⟨_, _, rfl, rfl, cm (show -18446744073709551616 < lcell ns k ∧ lcell ns k < 18446744073709551616 by omega), _, _, rfl, rfl, (by show (0 : Int) < _; decide), ?_⟩
    refine ⟨_, rfl, _, rfl, _, _, rfl, rfl, cm (show -18446744073709551616 < lmix ns k salt ∧ lmix ns k salt < 18446744073709551616 by omega), _, _, rfl, rfl, (by show (0 : Int) < _; decide), _, _, rfl, rfl, ⟨by decide, by decide⟩, _, rfl, _, _, rfl, rfl, hm, kQ⟩
theorem cal__law_some {P : Program} {w : World} {K : PySem.W.Frag} {mg : Str → Option Value} {base : Heap} (T : Txt w K mg) : Cal P w K mg base 2 "_law_some" ["_law_script", "_law_k", "_law_salt", "_law_many"] (sp__law_some K) := ⟨_, _, ok__law_some T, T.g__law_some, T.f__law_some.kp, T.f__law_some.bindsN (ps := ["_law_script", "_law_k", "_law_salt", "_law_many"]) fun _ _ _ _ _ _ us hl => match us, hl with | [_, _, _, _], _ => rfl⟩
def sp__law_number (K : PySem.W.Frag) : Sp := fun vs H Q _ => ∃ (a : Addr) (ns : List Int) (k : Nat), vs = [.ref a, .int k] ∧ SqL K H a (ns.map V.int) ∧ k ≤ 10000 ∧ Q (.int (lnum ns k)) H
theorem sc__law_number : FnScope ["_law_script", "_law_k", "_law_cell", "_law_mixed"] ["_law_script", "_law_k"] (defScope s__law_number) := ⟨rfl, rfl, rfl, by decide +kernel, rfl, by decide +kernel, by decide +kernel⟩
theorem ok__law_number {P : Program} {w : World} {K : PySem.W.Frag} {mg : Str → Option Value} {base : Heap} (T : Txt w K mg) : FnOk P w K mg base CX0 3 (ad__law_number K) (fdOf K (ad__law_number K)) ["_law_script", "_law_k"] (sp__law_number K) := by
  have C__law_some := cal__law_some (P := P) (base := base) T
  have C__law_cell_at := cal__law_cell_at (P := P) (base := base) T
  refine T.f__law_number.ok sc__law_number (fun vs H Q E h => ?_) (fun cdv A outer s H vs Q E hr h => ?_)
  · obtain ⟨_, _, _, rfl, _⟩ := h
    rfl
  · have hu := hu_of hr
    have nd := sc__law_number.nd
    refine ⟨_, PSs.nox ((pss_cons (ps_set (i := 2) nd rfl (Or.inl rfl) (pe_op op_mod (pe_cl C__law_cell_at (hr.mono (by decide)) (pa_cons (pv 0) (pa_cons (pv 1) pa_nil))) pe_int))
      (pss_cons (ps_if (pt_cmpR op_eq (pe_cl C__law_some (hr.mono (by decide)) (pa_cons (pv 0) (pa_cons (pv 1) (pa_cons pe_int (pa_cons pe_int pa_nil))))) pe_int (nomark _))
      (pss_one (ps_ret (pe_op op_sub (pe_op op_mod (pe_op op_add (pv 2) (pe_op op_mul pe_int (pv 1))) pe_int) pe_int)))
      pss_nil)
      (pss_cons (ps_set (i := 3) nd rfl (Or.inl rfl) (pe_op op_add (pe_op op_mul (pv 2) pe_int) (pe_op op_mul (pe_op op_mul (pv 1) (pv 1)) pe_int)))
      (pss_one (ps_ret (pe_op op_sub (pe_op op_mod (pv 3) pe_int) pe_int))))))), ?_⟩
    obtain ⟨a, ns, k, rfl, hS, hk, kQ⟩ := h
    refine ⟨_, rfl, _, rfl, a, ns, k, rfl, hS, _, _, rfl, rfl, (by show (0 : Int) < _; decide), ?_⟩
    have b1 : 0 ≤ lbig ns k ∧ lbig ns k < 18446744073709551616 := by unfold lbig; omega
    refine ⟨_, rfl, _, rfl, a, ns, k, 9, 2, rfl, hS, hk, by decide, by decide, rfl, _, rfl, iteI (fun c => ?_) (fun c => ?_)⟩
    · unfold lnum at kQ
      rw [if_pos c] at kQ
      exact ⟨_, rfl, _, rfl, _, _, rfl, rfl, cm (by omega), _, _, rfl, rfl, _, _, rfl, rfl, (by show (0 : Int) < _; decide), _, _, rfl, rfl, kQ⟩
    · unfold lnum at kQ
      rw [if_neg c] at kQ
      refine ⟨_, rfl, _, _, rfl, rfl, cm2 (by omega), _, rfl, _, rfl, _, _, rfl, rfl, cm (by omega), _, _, rfl, rfl, cm2 (by omega), _, _, rfl, rfl, ?_⟩
      exact ⟨_, rfl, _, _, rfl, rfl, (by show (0 : Int) < _; decide), _, _, rfl, rfl, kQ⟩
theorem cal__law_number {P : Program} {w : World} {K : PySem.W.Frag} {mg : Str → Option Value} {base : Heap} (T : Txt w K mg) : Cal P w K mg base 3 "_law_number" ["_law_script", "_law_k"] (sp__law_number K) := ⟨_, _, ok__law_number T, T.g__law_number, T.f__law_number.kp, T.f__law_number.bindsN (ps := ["_law_script", "_law_k"]) fun _ _ _ _ _ _ us hl => match us, hl with | [_, _], _ => rfl⟩
def sp__law_lanes (K : PySem.W.Frag) : Sp := fun vs H Q _ => ∃ (c : Int), vs = [.int c] ∧ Q (.int (llanes c)) H
theorem sc__law_lanes : FnScope ["_law_cell"] ["_law_cell"] (defScope s__law_lanes) := ⟨rfl, rfl, rfl, by decide +kernel, rfl, by decide +kernel, by decide +kernel⟩
theorem ok__law_lanes {P : Program} {w : World} {K : PySem.W.Frag} {mg : Str → Option Value} {base : Heap} (T : Txt w K mg) : FnOk P w K mg base CX0 1 (ad__law_lanes K) (fdOf K (ad__law_lanes K)) ["_law_cell"] (sp__law_lanes K) := by
  refine T.f__law_lanes.ok sc__law_lanes (fun vs H Q E h => ?_) (fun cdv A outer s H vs Q E hr h => ?_)
  · obtain ⟨_, rfl, _⟩ := h
    rfl
  · have hu := hu_of hr
    have nd := sc__law_lanes.nd
    refine ⟨_, PSs.nox ((pss_cons (ps_if (pt_cmpR op_eq (pe_op op_mod (pv 0) pe_int) pe_int (nomark _))
      (pss_one (ps_ret (pe_op op_add pe_int (pe_op op_mod (pe_op op_fdiv (pv 0) pe_int) pe_int))))
      pss_nil)
      (pss_one (ps_ret (pe_op op_add pe_int (pe_op op_mod (pe_op op_fdiv (pv 0) pe_int) pe_int)))))), ?_⟩
    obtain ⟨c, rfl, kQ⟩ := h
    unfold llanes at kQ
    refine ⟨_, rfl, _, _, rfl, rfl, (by show (0 : Int) < _; decide), rfl, _, rfl, iteI (fun c => ?_) (fun c => ?_)⟩
    · rw [if_pos c] at kQ
      exact ⟨_, rfl, _, _, rfl, rfl, ⟨by decide, by decide⟩, _, _, rfl, rfl, (by show (0 : Int) < _; decide), _, _, rfl, rfl, kQ⟩
    · rw [if_neg c] at kQ
      exact ⟨_, rfl, _, _, rfl, rfl, ⟨by decide, by decide⟩, _, _, rfl, rfl, (by show (0 : Int) < _; decide), _, _, rfl, rfl, kQ⟩
theorem cal__law_lanes {P : Program} {w : World} {K : PySem.W.Frag} {mg : Str → Option Value} {base : Heap} (T : Txt w K mg) : Cal P w K mg base 1 "_law_lanes" ["_law_cell"] (sp__law_lanes K) := ⟨_, _, ok__law_lanes T, T.g__law_lanes, T.f__law_lanes.kp, T.f__law_lanes.bindsN (ps := ["_law_cell"]) fun _ _ _ _ _ _ us hl => match us, hl with | [_], _ => rfl⟩
def sp__law_dust (K : PySem.W.Frag) : Sp := fun vs H Q _ => ∃ (a : Addr) (ns : List Int) (k salt : Nat), vs = [.ref a, .int k, .int salt] ∧ SqL K H a (ns.map V.int) ∧ k ≤ 1000 ∧ salt ≤ 1000 ∧
  ∀ p H', H p = none → Same H H' → H' p = some (.lst ((ldust ns k salt).map V.int)) → Q (.ref p) H'
theorem sc__law_dust : FnScope ["_law_script", "_law_k", "_law_salt", "_law_j"] ["_law_script", "_law_k", "_law_salt"] (defScope s__law_dust) := ⟨rfl, rfl, rfl, by decide +kernel, rfl, by decide +kernel, by decide +kernel⟩
theorem ok__law_dust {P : Program} {w : World} {K : PySem.W.Frag} {mg : Str → Option Value} {base : Heap} (T : Txt w K mg) : FnOk P w K mg base CX0 4 (ad__law_dust K) (fdOf K (ad__law_dust K)) ["_law_script", "_law_k", "_law_salt"] (sp__law_dust K) := by
  have C__law_some := cal__law_some (P := P) (base := base) T
  have C__law_number := cal__law_number (P := P) (base := base) T
  refine T.f__law_dust.ok sc__law_dust (fun vs H Q E h => ?_) (fun cdv A outer s H vs Q E hr h => ?_)
  · obtain ⟨_, _, _, _, rfl, _⟩ := h
    rfl
  · have hu := hu_of hr
    have nd := sc__law_dust.nd
    refine ⟨_, PSs.nox ((pss_one (ps_ret (pe_lc (own := [("_law_j", 3)]) (g := gName 3) rfl nd (pi_range1 rfl T.b_range (pa_cons (pe_cl C__law_some (hr.mono (by decide)) (pa_cons (pv 0) (pa_cons (pv 1) (pa_cons (pv 2) (pa_cons pe_int pa_nil))))) pa_nil)) (blkOk_by (N := ["_law_script", "_law_k", "_law_salt", "_law_j"]) (sc := defScope s__law_dust) (by decide +kernel)) (fun _ _ _ _ _ => pg_name (i := 3) nd rfl (Or.inl rfl)) (fun _ _ _ _ _ => pts_nil) (fun _ _ _ _ _ => (pe_cl C__law_number (hr.mono (by decide)) (pa_cons (pv 0) (pa_cons (pe_op op_add (pv 1) (pe_op op_mul pe_int (pv 3))) pa_nil)))))))), ?_⟩
    obtain ⟨a, ns, k, salt, rfl, hS, hk, hs, kQ⟩ := h
    have b := lsome_b ns k salt (many := 6) (by decide)
    refine ⟨_, rfl, _, rfl, _, rfl, a, ns, k, salt, 6, rfl, hS, by omega, by omega, by decide, _, rfl, by omega, by omega, fun D hD => ?_⟩
    refine comp_range hD (fun j => V.int (lnum ns (k + 5 * j))) (by omega) (fun i H' hi s1 Q' q => ?_) (fun H' s1 h1 => kQ _ _ hD s1 ?_)
    · refine ⟨_, rfl, _, rfl, _, rfl, _, _, rfl, rfl, cm (by omega), _, _, rfl, rfl, a, ns, k + 5 * i, ?_, s1.seq hS, by omega, q _ (Same.refl _)⟩
      show [V.ref a, V.int ((k : Int) + 5 * (0 + (i : Int)))] ++ [] = [V.ref a, V.int ((k + 5 * i : Nat) : Int)]
      rw [List.append_nil]
      congr 3
      push_cast
      omega
    · rw [h1]
      unfold ldust
      rw [List.map_map]
      rfl
theorem cal__law_dust {P : Program} {w : World} {K : PySem.W.Frag} {mg : Str → Option Value} {base : Heap} (T : Txt w K mg) : Cal P w K mg base 4 "_law_dust" ["_law_script", "_law_k", "_law_salt"] (sp__law_dust K) := ⟨_, _, ok__law_dust T, T.g__law_dust, T.f__law_dust.kp, T.f__law_dust.bindsN (ps := ["_law_script", "_law_k", "_law_salt"]) fun _ _ _ _ _ _ us hl => match us, hl with | [_, _, _], _ => rfl⟩
end Rb
end

section
set_option Elab.async false
set_option linter.all false
set_option maxRecDepth 100000
set_option maxHeartbeats 4000000
namespace Rb
open PySem PySem.Spec PyProof.Rows L2

def sp__law_kept (K : PySem.W.Frag) : Sp := fun vs H Q _ => ∃ (n : Int), vs = [.int n] ∧ Q (.int (kept n)) H
theorem sc__law_kept : FnScope ["_law_number_here"] ["_law_number_here"] (defScope s__law_kept) := ⟨rfl, rfl, rfl, by decide +kernel, rfl, by decide +kernel, by decide +kernel⟩
theorem ok__law_kept {P : Program} {w : World} {K : PySem.W.Frag} {mg : Str → Option Value} {base : Heap} (T : Txt w K mg) : FnOk P w K mg base CX0 1 (ad__law_kept K) (fdOf K (ad__law_kept K)) ["_law_number_here"] (sp__law_kept K) := by
  refine T.f__law_kept.ok sc__law_kept (fun vs H Q E h => ?_) (fun cdv A outer s H vs Q E hr h => ?_)
  · obtain ⟨_, rfl, _⟩ := h
    rfl
  · have hu := hu_of hr
    have nd := sc__law_kept.nd
    refine ⟨_, PSs.nox ((pss_one (ps_ret (pe_op op_sub (pe_op op_mod (pe_op op_add (pv 0) pe_int) pe_int) pe_int)))), ?_⟩
    obtain ⟨n, rfl, k⟩ := h
    exact ⟨_, rfl, _, _, rfl, rfl, _, _, rfl, rfl, (by show (0 : Int) < _; decide), _, _, rfl, rfl, k⟩
theorem cal__law_kept {P : Program} {w : World} {K : PySem.W.Frag} {mg : Str → Option Value} {base : Heap} (T : Txt w K mg) : Cal P w K mg base 1 "_law_kept" ["_law_number_here"] (sp__law_kept K) := ⟨_, _, ok__law_kept T, T.g__law_kept, T.f__law_kept.kp, T.f__law_kept.bindsN (ps := ["_law_number_here"]) fun _ _ _ _ _ _ us hl => match us, hl with | [_], _ => rfl⟩
def sp__law_joined (K : PySem.W.Frag) : Sp := fun vs H Q _ => ∃ (s : Str) (l r : Int), vs = [.str s, .int l, .int r] ∧ Fold9 s ∧ KR l ∧ KR r ∧ Q (.int (jn s l r)) H
theorem sc__law_joined : FnScope ["_law_fold", "_law_run", "_law_number_here"] ["_law_fold", "_law_run", "_law_number_here"] (defScope s__law_joined) := ⟨rfl, rfl, rfl, by decide +kernel, rfl, by decide +kernel, by decide +kernel⟩
theorem ok__law_joined {P : Program} {w : World} {K : PySem.W.Frag} {mg : Str → Option Value} {base : Heap} (T : Txt w K mg) : FnOk P w K mg base CX0 2 (ad__law_joined K) (fdOf K (ad__law_joined K)) ["_law_fold", "_law_run", "_law_number_here"] (sp__law_joined K) := by
  have C__law_kept := cal__law_kept (P := P) (base := base) T
  refine T.f__law_joined.ok sc__law_joined (fun vs H Q E h => ?_) (fun cdv A outer s H vs Q E hr h => ?_)
  · obtain ⟨_, _, _, rfl, _⟩ := h
    rfl
  · have hu := hu_of hr
    have nd := sc__law_joined.nd
    refine ⟨_, PSs.nox ((pss_cons (ps_if (pt_cmpR op_eq (pv 0) pe_str (nomark _))
      (pss_one (ps_ret (pe_cl C__law_kept (hr.mono (by decide)) (pa_cons (pe_op op_add (pv 1) (pv 2)) pa_nil))))
      pss_nil)
      (pss_cons (ps_if (pt_cmpR op_eq (pv 0) pe_str (nomark _))
      (pss_one (ps_ret (pe_cl C__law_kept (hr.mono (by decide)) (pa_cons (pe_op op_mul (pv 1) (pv 2)) pa_nil))))
      pss_nil)
      (pss_cons (ps_if (pt_cmpR op_eq (pv 0) pe_str (nomark _))
      (pss_one (ps_ret (pe_callB (call_min2 rfl) rfl T.b_min (by decide +kernel) (pa_cons (pv 1) (pa_cons (pv 2) pa_nil)))))
      pss_nil)
      (pss_cons (ps_if (pt_cmpR op_eq (pv 0) pe_str (nomark _))
      (pss_one (ps_ret (pe_callB (call_max2 rfl) rfl T.b_max (by decide +kernel) (pa_cons (pv 1) (pa_cons (pv 2) pa_nil)))))
      pss_nil)
      (pss_cons (ps_if (pt_cmpR op_eq (pv 0) pe_str (nomark _))
      (pss_one (ps_ret (pe_op op_and (pv 1) (pv 2))))
      pss_nil)
      (pss_cons (ps_if (pt_cmpR op_eq (pv 0) pe_str (nomark _))
      (pss_one (ps_ret (pe_op op_or (pv 1) (pv 2))))
      pss_nil)
      (pss_cons (ps_if (pt_cmpR op_eq (pv 0) pe_str (nomark _))
      (pss_one (ps_ret (pe_op op_xor (pv 1) (pv 2))))
      pss_nil)
      (pss_cons (ps_if (pt_cmpR op_eq (pv 0) pe_str (nomark _))
      (pss_one (ps_ret (pe_cl C__law_kept (hr.mono (by decide)) (pa_cons (pe_op op_add (pe_op op_mul pe_int (pv 1)) (pv 2)) pa_nil))))
      pss_nil)
      (pss_one (ps_ret (pe_callB (call_max2 rfl) rfl T.b_max (by decide +kernel) (pa_cons (pe_un un_neg pe_int) (pa_cons (pe_callB (call_min2 rfl) rfl T.b_min (by decide +kernel) (pa_cons pe_int (pa_cons (pe_op op_add (pv 1) (pv 2)) pa_nil))) pa_nil)))))))))))))), ?_⟩
    obtain ⟨s, l, r, rfl, hs, hl, hr2, k⟩ := h
    refine ⟨_, rfl, rfl, _, rfl, iteS (fun c => ?_) (fun c1 => ?_)⟩
    · subst c
      exact ⟨_, rfl, _, rfl, _, _, rfl, rfl, _, rfl, k⟩
    refine ⟨_, rfl, rfl, _, rfl, iteS (fun c => ?_) (fun c2 => ?_)⟩
    · subst c
      exact ⟨_, rfl, _, rfl, _, _, rfl, rfl, hl.cmul _, _, rfl, k⟩
    refine ⟨_, rfl, rfl, _, rfl, iteS (fun c => ?_) (fun c3 => ?_)⟩
    · subst c
      exact ⟨_, rfl, _, rfl, _, _, rfl, k⟩
    refine ⟨_, rfl, rfl, _, rfl, iteS (fun c => ?_) (fun c4 => ?_)⟩
    · subst c
      exact ⟨_, rfl, _, rfl, _, _, rfl, k⟩
    refine ⟨_, rfl, rfl, _, rfl, iteS (fun c => ?_) (fun c5 => ?_)⟩
    · subst c
      exact ⟨_, rfl, _, rfl, _, _, rfl, rfl, k⟩
    refine ⟨_, rfl, rfl, _, rfl, iteS (fun c => ?_) (fun c6 => ?_)⟩
    · subst c
      exact ⟨_, rfl, _, rfl, _, _, rfl, rfl, k⟩
    refine ⟨_, rfl, rfl, _, rfl, iteS (fun c => ?_) (fun c7 => ?_)⟩
    · subst c
      exact ⟨_, rfl, _, rfl, _, _, rfl, rfl, k⟩
    refine ⟨_, rfl, rfl, _, rfl, iteS (fun c => ?_) (fun c8 => ?_)⟩
    · subst c
      exact ⟨_, rfl, _, _, rfl, rfl, .inl ⟨by decide, by decide⟩, _, rfl, _, _, rfl, rfl, _, rfl, k⟩
    have c : s = "capped" := by
      rcases hs with h | h | h | h | h | h | h | h | h
      · exact (c1 h).elim
      · exact (c2 h).elim
      · exact (c3 h).elim
      · exact (c4 h).elim
      · exact (c5 h).elim
      · exact (c6 h).elim
      · exact (c7 h).elim
      · exact (c8 h).elim
      · exact h
    subst c
    exact ⟨_, rfl, _, rfl, _, rfl, _, _, rfl, rfl, _, _, rfl, _, _, rfl, k⟩
theorem cal__law_joined {P : Program} {w : World} {K : PySem.W.Frag} {mg : Str → Option Value} {base : Heap} (T : Txt w K mg) : Cal P w K mg base 2 "_law_joined" ["_law_fold", "_law_run", "_law_number_here"] (sp__law_joined K) := ⟨_, _, ok__law_joined T, T.g__law_joined, T.f__law_joined.kp, T.f__law_joined.bindsN (ps := ["_law_fold", "_law_run", "_law_number_here"]) fun _ _ _ _ _ _ us hl => match us, hl with | [_, _, _], _ => rfl⟩
theorem fmod_eq (l r : Int) : l - l.fdiv r * r = l.fmod r := by
  rw [Int.fmod_def, Int.mul_comm]
def sp__law_signed (K : PySem.W.Frag) : Sp := fun vs H Q _ => ∃ (s : Str) (l r n : Int), vs = [.str s, .int l, .int r] ∧ KR l ∧ KR r ∧ sgn s l r = some n ∧ Q (.int n) H
theorem sc__law_signed : FnScope ["_law_sign", "_law_left", "_law_right"] ["_law_sign", "_law_left", "_law_right"] (defScope s__law_signed) := ⟨rfl, rfl, rfl, by decide +kernel, rfl, by decide +kernel, by decide +kernel⟩
theorem ok__law_signed {P : Program} {w : World} {K : PySem.W.Frag} {mg : Str → Option Value} {base : Heap} (T : Txt w K mg) : FnOk P w K mg base CX0 2 (ad__law_signed K) (fdOf K (ad__law_signed K)) ["_law_sign", "_law_left", "_law_right"] (sp__law_signed K) := by
  have C__law_kept := cal__law_kept (P := P) (base := base) T
  refine T.f__law_signed.ok sc__law_signed (fun vs H Q E h => ?_) (fun cdv A outer s H vs Q E hr h => ?_)
  · obtain ⟨_, _, _, _, rfl, _⟩ := h
    rfl
  · have hu := hu_of hr
    have nd := sc__law_signed.nd
    refine ⟨_, PSs.nox ((pss_cons (ps_if (pt_cmpR op_eq (pv 0) pe_str (nomark _))
      (pss_one (ps_ret (pe_cl C__law_kept (hr.mono (by decide)) (pa_cons (pe_op op_add (pv 1) (pv 2)) pa_nil))))
      pss_nil)
      (pss_cons (ps_if (pt_cmpR op_eq (pv 0) pe_str (nomark _))
      (pss_one (ps_ret (pe_cl C__law_kept (hr.mono (by decide)) (pa_cons (pe_op op_sub (pv 1) (pv 2)) pa_nil))))
      pss_nil)
      (pss_cons (ps_if (pt_cmpR op_eq (pv 0) pe_str (nomark _))
      (pss_one (ps_ret (pe_cl C__law_kept (hr.mono (by decide)) (pa_cons (pe_op op_mul (pv 1) (pv 2)) pa_nil))))
      pss_nil)
      (pss_cons (ps_if (pt_cmpR op_eq (pv 0) pe_str (nomark _))
      (pss_one (ps_ret (pe_cl C__law_kept (hr.mono (by decide)) (pa_cons (pe_op op_fdivX (pv 1) (pv 2)) pa_nil))))
      pss_nil)
      (pss_cons (ps_if (pt_cmpR op_eq (pv 0) pe_str (nomark _))
      (pss_one (ps_ret (pe_op op_sub (pv 1) (pe_op op_mul (pe_op op_fdivX (pv 1) (pv 2)) (pv 2)))))
      pss_nil)
      (pss_cons (ps_if (pt_cmpR op_eq (pv 0) pe_str (nomark _))
      (pss_one (ps_ret (pe_callB (call_min2 rfl) rfl T.b_min (by decide +kernel) (pa_cons (pv 1) (pa_cons (pv 2) pa_nil)))))
      pss_nil)
      (pss_cons (ps_if (pt_cmpR op_eq (pv 0) pe_str (nomark _))
      (pss_one (ps_ret (pe_callB (call_max2 rfl) rfl T.b_max (by decide +kernel) (pa_cons (pv 1) (pa_cons (pv 2) pa_nil)))))
      pss_nil)
      (pss_cons (ps_if (pt_cmpR op_eq (pv 0) pe_str (nomark _))
      (pss_one (ps_ret (pe_callTy call_int1 rfl T.b_int (by decide +kernel) (pa_cons (pe_cmpR op_lt (pv 1) (pv 2) (nomark _)) pa_nil))))
      pss_nil)
      (pss_cons (ps_if (pt_cmpR op_eq (pv 0) pe_str (nomark _))
      (pss_one (ps_ret (pe_callTy call_int1 rfl T.b_int (by decide +kernel) (pa_cons (pe_cmpR op_eq (pv 1) (pv 2) (nomark _)) pa_nil))))
      pss_nil)
      (pss_cons (ps_if (pt_cmpR op_eq (pv 0) pe_str (nomark _))
      (pss_one (ps_ret (pe_op op_and (pv 1) (pv 2))))
      pss_nil)
      (pss_cons (ps_if (pt_cmpR op_eq (pv 0) pe_str (nomark _))
      (pss_one (ps_ret (pe_op op_or (pv 1) (pv 2))))
      pss_nil)
      (pss_one (ps_ret (pe_op op_xor (pv 1) (pv 2)))))))))))))))), ?_⟩
    obtain ⟨s, l, r, n, rfl, hl, hr2, e, k⟩ := h
    unfold sgn at e
    refine ⟨_, rfl, rfl, _, rfl, iteS (fun c => ?_) (fun c => ?_)⟩
    · rw [if_pos c] at e
      cases e
      exact ⟨_, rfl, _, rfl, _, _, rfl, rfl, _, rfl, k⟩
    rw [if_neg c] at e
    refine ⟨_, rfl, rfl, _, rfl, iteS (fun c => ?_) (fun c => ?_)⟩
    · rw [if_pos c] at e
      cases e
      exact ⟨_, rfl, _, rfl, _, _, rfl, rfl, _, rfl, k⟩
    rw [if_neg c] at e
    refine ⟨_, rfl, rfl, _, rfl, iteS (fun c => ?_) (fun c => ?_)⟩
    · rw [if_pos c] at e
      cases e
      exact ⟨_, rfl, _, rfl, _, _, rfl, rfl, hl.cmul _, _, rfl, k⟩
    rw [if_neg c] at e
    refine ⟨_, rfl, rfl, _, rfl, iteS (fun c => ?_) (fun c1 => ?_)⟩
    · rw [if_pos (.inl c)] at e
      by_cases z : r = 0
      · rw [if_pos z] at e
        cases e
      rw [if_neg z, if_pos c] at e
      cases e
      exact ⟨_, rfl, _, rfl, _, _, rfl, rfl, ⟨z, hr2.log⟩, _, rfl, k⟩
    refine ⟨_, rfl, rfl, _, rfl, iteS (fun c => ?_) (fun c2 => ?_)⟩
    · rw [if_pos (.inr c)] at e
      by_cases z : r = 0
      · rw [if_pos z] at e
        cases e
      rw [if_neg z, if_neg c1] at e
      cases e
      rw [← fmod_eq] at k
      have hc : CMul (l.fdiv r) r := by
        unfold KR at hr2
        exact cm2 (by omega)
      exact ⟨_, rfl, _, rfl, _, rfl, _, _, rfl, rfl, ⟨z, hr2.log⟩, _, rfl, _, _, rfl, rfl, hc, _, _, rfl, rfl, k⟩
    rw [if_neg (fun h => h.elim c1 c2)] at e
    refine ⟨_, rfl, rfl, _, rfl, iteS (fun c => ?_) (fun c => ?_)⟩
    · rw [if_pos c] at e
      cases e
      exact ⟨_, rfl, _, rfl, _, _, rfl, k⟩
    rw [if_neg c] at e
    refine ⟨_, rfl, rfl, _, rfl, iteS (fun c => ?_) (fun c => ?_)⟩
    · rw [if_pos c] at e
      cases e
      exact ⟨_, rfl, _, rfl, _, _, rfl, k⟩
    rw [if_neg c] at e
    refine ⟨_, rfl, rfl, _, rfl, iteS (fun c => ?_) (fun c => ?_)⟩
    · rw [if_pos c] at e
      cases e
      refine ⟨_, rfl, _, rfl, _, _, rfl, rfl, .inr ⟨_, rfl, ?_⟩⟩
      by_cases d : l < r
      · rw [if_pos d] at k
        rw [decide_eq_true d]
        exact k
      · rw [if_neg d] at k
        rw [decide_eq_false d]
        exact k
    rw [if_neg c] at e
    refine ⟨_, rfl, rfl, _, rfl, iteS (fun c => ?_) (fun c => ?_)⟩
    · rw [if_pos c] at e
      cases e
      refine ⟨_, rfl, _, rfl, rfl, .inr ⟨_, rfl, ?_⟩⟩
      by_cases d : l = r
      · rw [if_pos d] at k
        rw [decide_eq_true (congrArg V.int d)]
        exact k
      · rw [if_neg d] at k
        rw [decide_eq_false (fun z => d (V.int.inj z))]
        exact k
    rw [if_neg c] at e
    refine ⟨_, rfl, rfl, _, rfl, iteS (fun c => ?_) (fun c => ?_)⟩
    · rw [if_pos c] at e
      cases e
      exact ⟨_, rfl, _, rfl, _, _, rfl, rfl, k⟩
    rw [if_neg c] at e
    refine ⟨_, rfl, rfl, _, rfl, iteS (fun c => ?_) (fun c => ?_)⟩
    · rw [if_pos c] at e
      cases e
      exact ⟨_, rfl, _, rfl, _, _, rfl, rfl, k⟩
    rw [if_neg c] at e
    cases e
    exact ⟨_, rfl, _, rfl, _, _, rfl, rfl, k⟩
theorem cal__law_signed {P : Program} {w : World} {K : PySem.W.Frag} {mg : Str → Option Value} {base : Heap} (T : Txt w K mg) : Cal P w K mg base 2 "_law_signed" ["_law_sign", "_law_left", "_law_right"] (sp__law_signed K) := ⟨_, _, ok__law_signed T, T.g__law_signed, T.f__law_signed.kp, T.f__law_signed.bindsN (ps := ["_law_sign", "_law_left", "_law_right"]) fun _ _ _ _ _ _ us hl => match us, hl with | [_, _, _], _ => rfl⟩
end Rb
end

section
set_option Elab.async false
set_option linter.all false
set_option maxRecDepth 100000
set_option maxHeartbeats 4000000
namespace Rb
open PySem PySem.Spec PyProof.Rows L2
/-! ### what the machine has, plainly -/
/-- the places of the machine's objects -/
inductive Ro where
  | bench | lens | cells | boxesO | boxesL | box (i : Nat) | masksL | mask (i : Nat) | slotsL | slot (i : Nat) | dustO | dustL | picksO | picksL | touch | strip | flts
  deriving DecidableEq
structure MS where
  g : Nat
  lanes : Nat
  len : List Nat
  rc : Nat → Nat → Int
  sn : Nat → Nat → Int
  ma : Nat → Nat → Bool
  sl : Nat → Nat → Int
  tn : Nat
  car : Option Int
  on : Bool
  many : Nat
  base : Nat
  began : Nat
  width : Nat
  fl : Nat → Option Str
  cut : Option Nat
/-- what nobody asks for -/
structure Gh where
  dx : Ro → Addr
  place : Int
  dst : List Int
  dsp : Nat
  pst : List Int
  psp : Nat
  tch : List V
  kvs : List (Key × V)
def upd2 {α : Type} (f : Nat → Nat → α) (a b : Nat) (v : α) : Nat → Nat → α := fun x y => if x = a ∧ y = b then v else f x y
def upd1 {α : Type} (f : Nat → α) (a : Nat) (v : α) : Nat → α := fun x => if x = a then v else f x
theorem upd2_same {α : Type} {f : Nat → Nat → α} {a b : Nat} {v : α} : upd2 f a b v a b = v := if_pos ⟨rfl, rfl⟩
theorem upd2_ne {α : Type} {f : Nat → Nat → α} {a b x y : Nat} {v : α} (h : ¬ (x = a ∧ y = b)) : upd2 f a b v x y = f x y := if_neg h
theorem upd1_same {α : Type} {f : Nat → α} {a : Nat} {v : α} : upd1 f a v a = v := if_pos rfl
theorem upd1_ne {α : Type} {f : Nat → α} {a x : Nat} {v : α} (h : x ≠ a) : upd1 f a v x = f x := if_neg h
def ov : Option Int → V
  | some n => .int n
  | none => .non
def onv : Option Nat → V
  | some n => .int n
  | none => .non
/-- all cells, row behind row -/
def flat : List Nat → Nat → (Nat → Nat → Int) → List Int
  | [], _, _ => []
  | n :: ns, r, rc => (List.range n).map (rc r) ++ flat ns (r + 1) rc
def startN (len : List Nat) (r : Nat) : Nat := (len.take r).sum
theorem flat_get (rc : Nat → Nat → Int) : ∀ (len : List Nat) (r0 r i n : Nat), len[r]? = some n → i < n → (flat len r0 rc)[startN len r + i]? = some (rc (r0 + r) i)
  | [], _, _, _, _, h, _ => by simp at h
  | m :: ns, r0, 0, i, n, h, hi => by
    have e : m = n := by simpa using h
    subst e
    show ((List.range m).map (rc r0) ++ flat ns (r0 + 1) rc)[startN (m :: ns) 0 + i]? = _
    have e2 : startN (m :: ns) 0 + i = i := by simp [startN]
    rw [e2, List.getElem?_append_left (by simpa using hi), rm_get hi]
    rfl
  | m :: ns, r0, r + 1, i, n, h, hi => by
    have h' : ns[r]? = some n := by simpa using h
    have ih := flat_get rc ns (r0 + 1) r i n h' hi
    show ((List.range m).map (rc r0) ++ flat ns (r0 + 1) rc)[startN (m :: ns) (r + 1) + i]? = _
    have e2 : startN (m :: ns) (r + 1) + i = m + (startN ns r + i) := by
      simp only [startN, List.take_succ_cons, List.sum_cons]
      omega
    rw [e2, List.getElem?_append_right (by simp), List.length_map, List.length_range, Nat.add_sub_cancel_left, ih]
    congr 1
    show rc (r0 + 1 + r) i = rc (r0 + (r + 1)) i
    congr 1
    omega
theorem flat_len (rc : Nat → Nat → Int) : ∀ (len : List Nat) (r0 : Nat), (flat len r0 rc).length = len.sum
  | [], _ => rfl
  | m :: ns, r0 => by
    show ((List.range m).map (rc r0) ++ flat ns (r0 + 1) rc).length = _
    rw [List.length_append, flat_len rc ns, List.length_map, List.length_range, List.sum_cons]
theorem flat_other {rc rc' : Nat → Nat → Int} : ∀ (len : List Nat) (r0 : Nat), (∀ r i, r0 ≤ r → rc r i = rc' r i) → flat len r0 rc = flat len r0 rc'
  | [], _, _ => rfl
  | m :: ns, r0, h => by
    show (List.range m).map (rc r0) ++ flat ns (r0 + 1) rc = (List.range m).map (rc' r0) ++ flat ns (r0 + 1) rc'
    rw [flat_other ns (r0 + 1) fun r i hr => h r i (by omega)]
    congr 1
    exact List.map_congr_left fun i _ => h r0 i (Nat.le_refl _)
theorem flat_set (rc : Nat → Nat → Int) (v : Int) : ∀ (len : List Nat) (r0 r i n : Nat), len[r]? = some n → i < n → (flat len r0 rc).set (startN len r + i) v = flat len r0 (upd2 rc (r0 + r) i v)
  | [], _, _, _, _, h, _ => by simp at h
  | m :: ns, r0, 0, i, n, h, hi => by
    have e : m = n := by simpa using h
    subst e
    show ((List.range m).map (rc r0) ++ flat ns (r0 + 1) rc).set (startN (m :: ns) 0 + i) v = (List.range m).map (upd2 rc (r0 + 0) i v r0) ++ flat ns (r0 + 1) (upd2 rc (r0 + 0) i v)
    have e2 : startN (m :: ns) 0 + i = i := by simp [startN]
    rw [e2, List.set_append_left _ _ (by simpa using hi), rm_set, flat_other (rc' := upd2 rc (r0 + 0) i v) ns (r0 + 1) fun r j hr => (upd2_ne (by omega)).symm]
    congr 1
    refine List.map_congr_left fun j _ => ?_
    unfold upd2
    by_cases hj : j = i
    · rw [if_pos hj, if_pos ⟨rfl, hj⟩]
    · rw [if_neg hj, if_neg (fun z => hj z.2)]
  | m :: ns, r0, r + 1, i, n, h, hi => by
    have h' : ns[r]? = some n := by simpa using h
    have ih := flat_set rc v ns (r0 + 1) r i n h' hi
    show ((List.range m).map (rc r0) ++ flat ns (r0 + 1) rc).set (startN (m :: ns) (r + 1) + i) v = (List.range m).map (upd2 rc (r0 + (r + 1)) i v r0) ++ flat ns (r0 + 1) (upd2 rc (r0 + (r + 1)) i v)
    have e2 : startN (m :: ns) (r + 1) + i = m + (startN ns r + i) := by
      simp only [startN, List.take_succ_cons, List.sum_cons]
      omega
    have e3 : r0 + 1 + r = r0 + (r + 1) := by omega
    rw [e2, List.set_append_right _ _ (by simp), List.length_map, List.length_range, Nat.add_sub_cancel_left, ih, e3]
    congr 1
    refine List.map_congr_left fun j _ => ?_
    exact (upd2_ne (by omega)).symm
def nowV (ad : Ro → Addr) (on : Bool) : V := if on = true then .ref (ad .strip) else .non
def benchF (ad : Ro → Addr) (m : MS) (g : Gh) : List (Str × V) :=
  [("lengths", .ref (ad .lens)), ("cells", .ref (ad .cells)), ("lanes", .int m.lanes), ("boxes", .ref (ad .boxesO)), ("masks", .ref (ad .masksL)), ("slots", .ref (ad .slotsL)),
   ("dust", .ref (ad .dustO)), ("picks", .ref (ad .picksO)), ("place", .int g.place), ("touches", .ref (ad .touch)), ("now", nowV ad m.on), ("carried", ov m.car), ("raised", .bl false)]
def stripF (ad : Ro → Addr) (m : MS) : List (Str × V) :=
  [("many", .int m.many), ("group", .int m.g), ("base", .int m.base), ("began", .int m.began), ("width", .int m.width), ("faults", .ref (ad .flts)), ("cut", onv m.cut)]
def feedF (l : Addr) (n : Nat) : List (Str × V) := [("stock", .ref l), ("spent", .int n)]
def boxF (n : Nat) (l : Addr) : List (Str × V) := [("lanes", .int n), ("boxes", .ref l)]
def cont (K : PySem.W.Frag) (ad : Ro → Addr) (m : MS) (g : Gh) : Ro → HO
  | .bench => .ins (He.ga K "Bench") (g.dx .bench) (benchF ad m g)
  | .lens => .lst (m.len.map fun (n : Nat) => V.int (n : Int))
  | .cells => .lst ((flat m.len 0 m.rc).map V.int)
  | .boxesO => .ins (He.ga K "Boxes") (g.dx .boxesO) (boxF m.lanes (ad .boxesL))
  | .boxesL => .lst ((List.range 8).map fun i => .ref (ad (.box i)))
  | .box i => .lst ((List.range m.lanes).map fun j => .int (m.sn (i / m.g) (i % m.g * m.lanes + j)))
  | .masksL => .lst ((List.range 16).map fun i => .ref (ad (.mask i)))
  | .mask i => .lst ((List.range (4 * m.lanes)).map fun j => .bl (m.ma i j))
  | .slotsL => .lst ((List.range 60).map fun i => .ref (ad (.slot i)))
  | .slot i => .lst ((List.range (4 * m.lanes)).map fun j => .int (m.sl i j))
  | .dustO => .ins (He.ga K "Feed") (g.dx .dustO) (feedF (ad .dustL) g.dsp)
  | .dustL => .lst (g.dst.map V.int)
  | .picksO => .ins (He.ga K "Feed") (g.dx .picksO) (feedF (ad .picksL) g.psp)
  | .picksL => .lst (g.pst.map V.int)
  | .touch => .lst g.tch
  | .strip => .ins (He.ga K "Strip") (g.dx .strip) (stripF ad m)
  | .flts => .dK g.kvs
def rok (on : Bool) : Ro → Bool
  | .box i => decide (i < 8)
  | .mask i => decide (i < 16)
  | .slot i => decide (i < 60)
  | .strip => on
  | .flts => on
  | _ => true
structure MS.WF (m : MS) : Prop where
  g3 : m.g = 1 ∨ m.g = 2 ∨ m.g = 4
  l1 : 1 ≤ m.lanes
  l2 : m.lanes ≤ 64
  len7 : m.len.length = 7
  lenb : ∀ (r n : Nat), m.len[r]? = some n → n ≤ 400
  snk : ∀ p j, KR (m.sn p j)
  slk : ∀ p j, KR (m.sl p j)
  rck : ∀ p j, KR (m.rc p j)
  cark : ∀ c, m.car = some c → KR c
  wd : m.width ≤ m.g * m.lanes
  bw : m.base + m.width ≤ m.many
  mn : m.many ≤ 400
  bg : m.began ≤ 400
  cutf : ∀ c, m.cut = some c → ∃ s, m.fl c = some s
  tnb : m.tn ≤ 10000000
structure GOk (m : MS) (g : Gh) : Prop where
  tch : g.tch.length ≤ m.tn
  kvl : g.kvs.length ≤ m.tn
  kv : ∀ j : Nat, valV g.kvs (.inl (j : Int)) = (m.fl j).map V.str
  d1 : g.dst = [] ∨ g.dsp < g.dst.length
  dk : ∀ n ∈ g.dst, KR n
  dl : g.dst.length ≤ 1000
  p1 : g.pst = [] ∨ g.psp < g.pst.length
  pl : g.pst.length ≤ 1000
structure BAg (K : PySem.W.Frag) (H0 : Hp) (ad : Ro → Addr) (m : MS) (g : Gh) (H : Hp) : Prop where
  inj : ∀ r r', rok m.on r = true → rok m.on r' = true → ad r = ad r' → r = r'
  off : ∀ r, rok m.on r = true → H0 (ad r) = none
  at_ : ∀ r, rok m.on r = true → H (ad r) = some (cont K ad m g r)
  same : Same H0 H
structure BA (K : PySem.W.Frag) (H0 : Hp) (ad : Ro → Addr) (m : MS) (H : Hp) : Prop where
  wf : m.WF
  ex : ∃ g : Gh, GOk m g ∧ BAg K H0 ad m g H
section
variable {w : World} {K : PySem.W.Frag} {mg : Str → Option Value} {H0 H1 H H' : Hp} {ad : Ro → Addr} {m m' : MS} {g g' : Gh}
theorem BAg.write (A : BAg K H0 ad m g H) {r : Ro} {o : HO} (hr : rok m.on r = true) (hon : m'.on = m.on) (ho : cont K ad m' g' r = o) (oth : ∀ r', r' ≠ r → cont K ad m' g' r' = cont K ad m g r') : BAg K H0 ad m' g' (upd H (ad r) o) := by
  refine ⟨by rw [hon]; exact A.inj, by rw [hon]; exact A.off, fun r' h => ?_, same_upd A.same (A.off r hr)⟩
  rw [hon] at h
  by_cases e : r' = r
  · subst e
    rw [upd_same, ho]
  · rw [upd_ne (fun z => e (A.inj _ _ h hr z)), A.at_ r' h, oth r' e]
theorem BAg.sm (A : BAg K H0 ad m g H) (s : Same H H') : BAg K H0 ad m g H' := ⟨A.inj, A.off, fun r h => s _ _ (A.at_ r h), A.same.trans s⟩
theorem BA.sm (B : BA K H0 ad m H) (s : Same H H') : BA K H0 ad m H' := by
  obtain ⟨wf, g, hg, A⟩ := B
  exact ⟨wf, g, hg, A.sm s⟩
theorem BA.same (B : BA K H0 ad m H) : Same H0 H := by
  obtain ⟨_, g, _, A⟩ := B
  exact A.same
theorem BA.weaken (B : BA K H1 ad m H) (s : Same H0 H1) : BA K H0 ad m H := by
  obtain ⟨wf, g, hg, A⟩ := B
  exact ⟨wf, g, hg, A.inj, fun r h => s.free (A.off r h), A.at_, s.trans A.same⟩
open Classical in
/-- the heap without the machine's objects -/
noncomputable def offH (ad : Ro → Addr) (on : Bool) (H : Hp) : Hp := fun b => if ∃ r, rok on r = true ∧ b = ad r then none else H b
theorem offH_in {on : Bool} {r : Ro} (h : rok on r = true) : offH ad on H (ad r) = none := if_pos ⟨r, h, rfl⟩
theorem offH_out {on : Bool} {b : Addr} (h : ∀ r, rok on r = true → b ≠ ad r) : offH ad on H b = H b := if_neg fun ⟨r, h1, h2⟩ => h r h1 h2
theorem offH_same {on : Bool} : Same (offH ad on H) H := fun b o e => by
  unfold offH at e
  split at e
  · cases e
  · exact e
theorem BA.rebase (B : BA K H0 ad m H) : BA K (offH ad m.on H) ad m H := by
  obtain ⟨wf, g, hg, A⟩ := B
  exact ⟨wf, g, hg, A.inj, fun r h => offH_in h, A.at_, offH_same⟩
theorem BA.back (B : BA K H0 ad m H) : Same H0 (offH ad m.on H) := fun b o e => by
  obtain ⟨wf, g, hg, A⟩ := B
  rw [offH_out (fun r h z => by rw [z, A.off r h] at e; cases e)]
  exact A.same b o e
/-- what is no object of the machine's kinds stands off it -/
theorem BA.out_tup (B : BA K H0 ad m H) {a : Addr} {xs : List V} (h : H a = some (.tup xs)) : offH ad m.on H a = some (.tup xs) := by
  obtain ⟨wf, g, hg, A⟩ := B
  rw [offH_out (fun r hr z => by
    rw [z, A.at_ r hr] at h
    cases r <;> cases h)]
  exact h
/-- a new object stands off it -/
theorem BA.out_new (B : BA K H0 ad m H) {a : Addr} {o : HO} (hn : H a = none) (s : Same H H') (h : H' a = some o) : offH ad m.on H' a = some o := by
  obtain ⟨wf, g, hg, A⟩ := B
  rw [offH_out (fun r hr z => by
    rw [z, A.at_ r hr] at hn
    cases hn)]
  exact h
theorem BA.at1 (B : BA K H0 ad m H) {r : Ro} (hr : rok m.on r = true) : ∃ g, GOk m g ∧ H (ad r) = some (cont K ad m g r) := by
  obtain ⟨wf, g, hg, A⟩ := B
  exact ⟨g, hg, A.at_ r hr⟩
/-! ### fields -/
theorem BA.fB (B : BA K H0 ad m H) (T : Txt w K mg) {f : Str} {v : V} (hl : ∀ g, (benchF ad m g).lookup f = some v) (hn : NoAttr K (He.ga K "Bench") f) {R : V → Prop} (q : R v) :
    ∃ a C dx fs v', V.ref (ad .bench) = .ref a ∧ H a = some (.ins C dx fs) ∧ Cls K C ∧ NoAttr K C f ∧ List.lookup f fs = some v' ∧ R v' := by
  obtain ⟨g, hg, h⟩ := B.at1 (r := .bench) rfl
  exact ⟨_, _, _, _, _, rfl, h, T.cl_Bench, hn, hl g, q⟩
theorem BA.fS (B : BA K H0 ad m H) (T : Txt w K mg) (on : m.on = true) {f : Str} {v : V} (hl : (stripF ad m).lookup f = some v) (hn : NoAttr K (He.ga K "Strip") f) {R : V → Prop} (q : R v) :
    ∃ a C dx fs v', V.ref (ad .strip) = .ref a ∧ H a = some (.ins C dx fs) ∧ Cls K C ∧ NoAttr K C f ∧ List.lookup f fs = some v' ∧ R v' := by
  obtain ⟨g, hg, h⟩ := B.at1 (r := .strip) on
  exact ⟨_, _, _, _, _, rfl, h, T.cl_Strip, hn, hl, q⟩
theorem BA.fX (B : BA K H0 ad m H) (T : Txt w K mg) {f : Str} {v : V} (hl : (boxF m.lanes (ad .boxesL)).lookup f = some v) (hn : NoAttr K (He.ga K "Boxes") f) {R : V → Prop} (q : R v) :
    ∃ a C dx fs v', V.ref (ad .boxesO) = .ref a ∧ H a = some (.ins C dx fs) ∧ Cls K C ∧ NoAttr K C f ∧ List.lookup f fs = some v' ∧ R v' := by
  obtain ⟨g, hg, h⟩ := B.at1 (r := .boxesO) rfl
  exact ⟨_, _, _, _, _, rfl, h, T.cl_Boxes, hn, hl, q⟩
theorem nowV_on (h : m.on = true) : nowV ad m.on = .ref (ad .strip) := by
  unfold nowV
  rw [if_pos h]
theorem BA.now (B : BA K H0 ad m H) (T : Txt w K mg) (on : m.on = true) {R : V → Prop} (q : R (.ref (ad .strip))) :
    ∃ a C dx fs v', V.ref (ad .bench) = .ref a ∧ H a = some (.ins C dx fs) ∧ Cls K C ∧ NoAttr K C "now" ∧ List.lookup ("now" : Str) fs = some v' ∧ R v' :=
  B.fB T (v := .ref (ad .strip)) (fun g => by rw [← nowV_on (ad := ad) on]; rfl) T.n_Bench_now q
theorem BA.lst (B : BA K H0 ad m H) {r : Ro} (hr : rok m.on r = true) {xs : List V} (h : ∀ g, cont K ad m g r = .lst xs) : H (ad r) = some (.lst xs) := by
  obtain ⟨g, hg, e⟩ := B.at1 hr
  rw [e, h g]
end
end Rb
end

section
set_option Elab.async false
set_option linter.all false
set_option maxRecDepth 100000
set_option maxHeartbeats 4000000
namespace Rb
open PySem PySem.Spec PyProof.Rows L2
theorem putK_len {κ : Type} [DecidableEq κ] (kvs : List (κ × V)) (k : κ) (v : V) : (putK kvs k v).length ≤ kvs.length + 1 := by
  unfold putK
  split
  · rw [List.length_map]
    omega
  · rw [List.length_append]
    simp
section
variable {w : World} {K : PySem.W.Frag} {mg : Str → Option Value} {H0 H1 H H' : Hp} {ad : Ro → Addr} {m m' : MS} {g g' : Gh}
theorem MS.WF.p8 (wf : m.WF) {p : Nat} (h : p < 8 / m.g) {j : Nat} (hj : j < m.g * m.lanes) : p * m.g + j / m.lanes < 8 ∧ (p * m.g + j / m.lanes) / m.g = p ∧ (p * m.g + j / m.lanes) % m.g = j / m.lanes ∧ j / m.lanes < m.g ∧ j % m.lanes < m.lanes := by
  have h1 := wf.l1
  have hd : j / m.lanes < m.g := (Nat.div_lt_iff_lt_mul (by omega)).mpr hj
  have hm : j % m.lanes < m.lanes := Nat.mod_lt _ (by omega)
  have g3 := wf.g3
  refine ⟨?_, ?_, ?_, hd, hm⟩
  all_goals
    clear hm hj wf
    generalize j / m.lanes = q at *
    generalize m.g = G at *
    rcases g3 with e | e | e <;> subst e <;> omega
theorem BA.w_mask (B : BA K H0 ad m H) {i j : Nat} (v : Bool) (hi : i < 16) (hj : j < 4 * m.lanes) :
    BA K H0 ad { m with ma := upd2 m.ma i j v } (upd H (ad (.mask i)) (.lst (((List.range (4 * m.lanes)).map fun x => V.bl (m.ma i x)).set j (.bl v)))) := by
  obtain ⟨wf, g, hg, A⟩ := B
  refine ⟨⟨wf.g3, wf.l1, wf.l2, wf.len7, wf.lenb, wf.snk, wf.slk, wf.rck, wf.cark, wf.wd, wf.bw, wf.mn, wf.bg, wf.cutf, wf.tnb⟩, g, ⟨hg.tch, hg.kvl, hg.kv, hg.d1, hg.dk, hg.dl, hg.p1, hg.pl⟩, A.write (r := .mask i) (decide_eq_true hi) rfl ?_ fun r' hr' => ?_⟩
  · show HO.lst ((List.range (4 * m.lanes)).map fun x => V.bl (upd2 m.ma i j v i x)) = _
    rw [rm_set]
    congr 1
    refine List.map_congr_left fun x _ => ?_
    unfold upd2
    by_cases e : x = j
    · rw [if_pos ⟨rfl, e⟩, if_pos e]
    · rw [if_neg (fun z => e z.2), if_neg e]
  · cases r' with
    | mask i' =>
      show HO.lst ((List.range (4 * m.lanes)).map fun x => V.bl (upd2 m.ma i j v i' x)) = HO.lst ((List.range (4 * m.lanes)).map fun x => V.bl (m.ma i' x))
      congr 1
      refine List.map_congr_left fun x _ => ?_
      rw [upd2_ne (fun z => hr' (by rw [z.1]))]
    | _ => rfl
theorem BA.w_slot (B : BA K H0 ad m H) {i j : Nat} {v : Int} (hv : KR v) (hi : i < 60) (hj : j < 4 * m.lanes) :
    BA K H0 ad { m with sl := upd2 m.sl i j v } (upd H (ad (.slot i)) (.lst (((List.range (4 * m.lanes)).map fun x => V.int (m.sl i x)).set j (.int v)))) := by
  obtain ⟨wf, g, hg, A⟩ := B
  refine ⟨⟨wf.g3, wf.l1, wf.l2, wf.len7, wf.lenb, wf.snk, fun p q => ?_, wf.rck, wf.cark, wf.wd, wf.bw, wf.mn, wf.bg, wf.cutf, wf.tnb⟩, g, ⟨hg.tch, hg.kvl, hg.kv, hg.d1, hg.dk, hg.dl, hg.p1, hg.pl⟩, A.write (r := .slot i) (decide_eq_true hi) rfl ?_ fun r' hr' => ?_⟩
  · show KR (upd2 m.sl i j v p q)
    unfold upd2
    split
    · exact hv
    · exact wf.slk p q
  · show HO.lst ((List.range (4 * m.lanes)).map fun x => V.int (upd2 m.sl i j v i x)) = _
    rw [rm_set]
    congr 1
    refine List.map_congr_left fun x _ => ?_
    unfold upd2
    by_cases e : x = j
    · rw [if_pos ⟨rfl, e⟩, if_pos e]
    · rw [if_neg (fun z => e z.2), if_neg e]
  · cases r' with
    | slot i' =>
      show HO.lst ((List.range (4 * m.lanes)).map fun x => V.int (upd2 m.sl i j v i' x)) = HO.lst ((List.range (4 * m.lanes)).map fun x => V.int (m.sl i' x))
      congr 1
      refine List.map_congr_left fun x _ => ?_
      rw [upd2_ne (fun z => hr' (by rw [z.1]))]
    | _ => rfl
theorem BA.w_cell (B : BA K H0 ad m H) {r i n : Nat} {v : Int} (hv : KR v) (hr : m.len[r]? = some n) (hi : i < n) :
    BA K H0 ad { m with rc := upd2 m.rc r i v } (upd H (ad .cells) (.lst (((flat m.len 0 m.rc).map V.int).set (startN m.len r + i) (.int v)))) := by
  obtain ⟨wf, g, hg, A⟩ := B
  refine ⟨⟨wf.g3, wf.l1, wf.l2, wf.len7, wf.lenb, wf.snk, wf.slk, fun p q => ?_, wf.cark, wf.wd, wf.bw, wf.mn, wf.bg, wf.cutf, wf.tnb⟩, g, ⟨hg.tch, hg.kvl, hg.kv, hg.d1, hg.dk, hg.dl, hg.p1, hg.pl⟩, A.write (r := .cells) rfl rfl ?_ fun r' hr' => ?_⟩
  · show KR (upd2 m.rc r i v p q)
    unfold upd2
    split
    · exact hv
    · exact wf.rck p q
  · show HO.lst ((flat m.len 0 (upd2 m.rc r i v)).map V.int) = _
    have e := flat_set m.rc v m.len 0 r i n hr hi
    rw [Nat.zero_add] at e
    rw [← e, List.map_set]
  · cases r' with
    | cells => exact (hr' rfl).elim
    | _ => rfl
theorem BA.w_sn (B : BA K H0 ad m H) {p j : Nat} {v : Int} (hv : KR v) (hp : p < 8 / m.g) (hj : j < m.g * m.lanes) :
    BA K H0 ad { m with sn := upd2 m.sn p j v } (upd H (ad (.box (p * m.g + j / m.lanes))) (.lst (((List.range m.lanes).map fun x => V.int (m.sn ((p * m.g + j / m.lanes) / m.g) ((p * m.g + j / m.lanes) % m.g * m.lanes + x))).set (j % m.lanes) (.int v)))) := by
  obtain ⟨wf, g, hg, A⟩ := B
  obtain ⟨b1, b2, b3, b4, b5⟩ := wf.p8 hp hj
  have ej : j / m.lanes * m.lanes + j % m.lanes = j := by rw [Nat.mul_comm]; exact Nat.div_add_mod j m.lanes
  refine ⟨⟨wf.g3, wf.l1, wf.l2, wf.len7, wf.lenb, fun p' q => ?_, wf.slk, wf.rck, wf.cark, wf.wd, wf.bw, wf.mn, wf.bg, wf.cutf, wf.tnb⟩, g, ⟨hg.tch, hg.kvl, hg.kv, hg.d1, hg.dk, hg.dl, hg.p1, hg.pl⟩, A.write (r := .box (p * m.g + j / m.lanes)) (decide_eq_true b1) rfl ?_ fun r' hr' => ?_⟩
  · show KR (upd2 m.sn p j v p' q)
    unfold upd2
    split
    · exact hv
    · exact wf.snk p' q
  · show HO.lst ((List.range m.lanes).map fun x => V.int (upd2 m.sn p j v ((p * m.g + j / m.lanes) / m.g) ((p * m.g + j / m.lanes) % m.g * m.lanes + x))) = _
    rw [rm_set, b2, b3]
    congr 1
    refine List.map_congr_left fun x hx => ?_
    unfold upd2
    by_cases e : x = j % m.lanes
    · rw [if_pos ⟨rfl, by rw [e]; exact ej⟩, if_pos e]
    · rw [if_neg (fun z => e (by have := z.2; omega)), if_neg e]
  · cases r' with
    | box b =>
      show HO.lst ((List.range m.lanes).map fun x => V.int (upd2 m.sn p j v (b / m.g) (b % m.g * m.lanes + x))) = HO.lst ((List.range m.lanes).map fun x => V.int (m.sn (b / m.g) (b % m.g * m.lanes + x)))
      congr 1
      refine List.map_congr_left fun x hx => ?_
      have hx' : x < m.lanes := List.mem_range.mp hx
      rw [upd2_ne (fun z => hr' ?_)]
      have e1 : b % m.g = j / m.lanes := by
        rw [← z.2, Nat.mul_comm, Nat.mul_add_div (by have := wf.l1; omega), Nat.div_eq_of_lt hx', Nat.add_zero]
      have e2 : b = b / m.g * m.g + b % m.g := by rw [Nat.mul_comm]; exact (Nat.div_add_mod b m.g).symm
      rw [e2, z.1, e1]
    | _ => rfl
theorem BA.touchTy (B : BA K H0 ad m H) : tyV K "list" (.ref (ad .touch)) H := by
  obtain ⟨g, _, h⟩ := B.at1 (r := .touch) rfl
  exact .inl ⟨rfl, _, SqL.of h⟩
theorem BA.w_touch (B : BA K H0 ad m H) (ht : m.tn < 10000000) : ∃ xs, H (ad .touch) = some (.lst xs) ∧ xs.length < sizeLine ∧ ∀ v, BA K H0 ad { m with tn := m.tn + 1 } (upd H (ad .touch) (.lst (xs ++ [v]))) := by
  obtain ⟨wf, g, hg, A⟩ := B
  refine ⟨_, A.at_ .touch rfl, Nat.lt_of_le_of_lt hg.tch (Nat.lt_of_le_of_lt wf.tnb (by decide)), fun v => ?_⟩
  refine ⟨⟨wf.g3, wf.l1, wf.l2, wf.len7, wf.lenb, wf.snk, wf.slk, wf.rck, wf.cark, wf.wd, wf.bw, wf.mn, wf.bg, wf.cutf, ht⟩, { g with tch := g.tch ++ [v] }, ⟨?_, Nat.le_succ_of_le hg.kvl, hg.kv, hg.d1, hg.dk, hg.dl, hg.p1, hg.pl⟩, A.write (r := .touch) rfl rfl rfl fun r' hr' => ?_⟩
  · show (g.tch ++ [v]).length ≤ m.tn + 1
    rw [List.length_append]
    have := hg.tch
    simp
    omega
  · cases r' with
    | touch => exact (hr' rfl).elim
    | _ => rfl
theorem BA.din (B : BA K H0 ad m H) (on : m.on = true) (j : Nat) : ∃ o, DGet H (ad .flts) (.int (j : Int)) o ∧ o.isSome = (m.fl j).isSome := by
  obtain ⟨g, hg, h⟩ := B.at1 (r := .flts) on
  refine ⟨_, DGet.k (k := Sum.inl (j : Int)) h, ?_⟩
  rw [hg.kv j]
  cases m.fl j <;> rfl
theorem BA.dget (B : BA K H0 ad m H) (on : m.on = true) {j : Nat} {s : Str} (hs : m.fl j = some s) : DGet H (ad .flts) (.int (j : Int)) (some (.str s)) := by
  obtain ⟨g, hg, h⟩ := B.at1 (r := .flts) on
  have e := hg.kv j
  rw [hs] at e
  have d := DGet.k (k := Sum.inl (j : Int)) h
  rw [e] at d
  exact d
theorem BA.dput (B : BA K H0 ad m H) (on : m.on = true) (ht : m.tn < 10000000) (j : Nat) (s : Str) : ∃ H4, DPut H (ad .flts) (.int (j : Int)) (.str s) H4 ∧ BA K H0 ad { m with fl := upd1 m.fl j (some s), tn := m.tn + 1 } H4 := by
  obtain ⟨wf, g, hg, A⟩ := B
  have h := A.at_ .flts on
  refine ⟨_, DPut.k (k := Sum.inl (j : Int)) h (Nat.lt_of_le_of_lt hg.kvl (Nat.lt_of_le_of_lt wf.tnb (by decide))), ?_⟩
  refine ⟨⟨wf.g3, wf.l1, wf.l2, wf.len7, wf.lenb, wf.snk, wf.slk, wf.rck, wf.cark, wf.wd, wf.bw, wf.mn, wf.bg, fun c hc => ?_, ht⟩, { g with kvs := putK g.kvs (.inl (j : Int)) (.str s) }, ⟨Nat.le_succ_of_le hg.tch, ?_, fun i => ?_, hg.d1, hg.dk, hg.dl, hg.p1, hg.pl⟩, A.write (r := .flts) on rfl rfl fun r' hr' => ?_⟩
  · show ∃ s', upd1 m.fl j (some s) c = some s'
    unfold upd1
    split
    · exact ⟨s, rfl⟩
    · exact wf.cutf c hc
  · exact Nat.le_trans (putK_len _ _ _) (Nat.succ_le_succ hg.kvl)
  · show valV (putK g.kvs (.inl (j : Int)) (.str s)) (.inl (i : Int)) = (upd1 m.fl j (some s) i).map V.str
    rw [valV_put]
    unfold upd1
    by_cases e : i = j
    · rw [if_pos e, if_pos (by rw [e])]
      rfl
    · rw [if_neg e, if_neg (fun z => e (by have := Sum.inl.inj z; omega)), hg.kv i]
  · cases r' with
    | flts => exact (hr' rfl).elim
    | _ => rfl
theorem BA.setPlace (B : BA K H0 ad m H) : ∃ dx fs, H (ad .bench) = some (.ins (He.ga K "Bench") dx fs) ∧ fs.length < 1000 ∧ ∀ n, BA K H0 ad m (upd H (ad .bench) (.ins (He.ga K "Bench") dx (putF "place" (.int n) fs))) := by
  obtain ⟨wf, g, hg, A⟩ := B
  refine ⟨_, _, A.at_ .bench rfl, by show 13 < 1000; decide, fun n => ?_⟩
  refine ⟨wf, { g with place := n }, ⟨hg.tch, hg.kvl, hg.kv, hg.d1, hg.dk, hg.dl, hg.p1, hg.pl⟩, A.write (r := .bench) rfl rfl rfl fun r' hr' => ?_⟩
  cases r' with
  | bench => exact (hr' rfl).elim
  | _ => rfl
theorem BA.setCar (B : BA K H0 ad m H) : ∃ dx fs, H (ad .bench) = some (.ins (He.ga K "Bench") dx fs) ∧ fs.length < 1000 ∧ ∀ c : Option Int, (∀ n, c = some n → KR n) → BA K H0 ad { m with car := c } (upd H (ad .bench) (.ins (He.ga K "Bench") dx (putF "carried" (ov c) fs))) := by
  obtain ⟨wf, g, hg, A⟩ := B
  refine ⟨_, _, A.at_ .bench rfl, by show 13 < 1000; decide, fun c hc => ?_⟩
  refine ⟨⟨wf.g3, wf.l1, wf.l2, wf.len7, wf.lenb, wf.snk, wf.slk, wf.rck, hc, wf.wd, wf.bw, wf.mn, wf.bg, wf.cutf, wf.tnb⟩, g, ⟨hg.tch, hg.kvl, hg.kv, hg.d1, hg.dk, hg.dl, hg.p1, hg.pl⟩, A.write (r := .bench) rfl rfl rfl fun r' hr' => ?_⟩
  cases r' with
  | bench => exact (hr' rfl).elim
  | _ => rfl
theorem BA.setCut (B : BA K H0 ad m H) (on : m.on = true) : ∃ dx fs, H (ad .strip) = some (.ins (He.ga K "Strip") dx fs) ∧ fs.length < 1000 ∧ ∀ c : Nat, (∃ s, m.fl c = some s) → BA K H0 ad { m with cut := some c } (upd H (ad .strip) (.ins (He.ga K "Strip") dx (putF "cut" (.int (c : Int)) fs))) := by
  obtain ⟨wf, g, hg, A⟩ := B
  refine ⟨_, _, A.at_ .strip on, by show 7 < 1000; decide, fun c hc => ?_⟩
  refine ⟨⟨wf.g3, wf.l1, wf.l2, wf.len7, wf.lenb, wf.snk, wf.slk, wf.rck, wf.cark, wf.wd, wf.bw, wf.mn, wf.bg, fun c' e => by cases e; exact hc, wf.tnb⟩, g, ⟨hg.tch, hg.kvl, hg.kv, hg.d1, hg.dk, hg.dl, hg.p1, hg.pl⟩, A.write (r := .strip) on rfl rfl fun r' hr' => ?_⟩
  cases r' with
  | strip => exact (hr' rfl).elim
  | _ => rfl
theorem BA.setWidth (B : BA K H0 ad m H) (on : m.on = true) : ∃ dx fs, H (ad .strip) = some (.ins (He.ga K "Strip") dx fs) ∧ fs.length < 1000 ∧ ∀ c : Nat, c ≤ m.width → BA K H0 ad { m with width := c } (upd H (ad .strip) (.ins (He.ga K "Strip") dx (putF "width" (.int (c : Int)) fs))) := by
  obtain ⟨wf, g, hg, A⟩ := B
  refine ⟨_, _, A.at_ .strip on, by show 7 < 1000; decide, fun c hc => ?_⟩
  refine ⟨⟨wf.g3, wf.l1, wf.l2, wf.len7, wf.lenb, wf.snk, wf.slk, wf.rck, wf.cark, Nat.le_trans hc wf.wd, Nat.le_trans (Nat.add_le_add_left hc _) wf.bw, wf.mn, wf.bg, wf.cutf, wf.tnb⟩, g, ⟨hg.tch, hg.kvl, hg.kv, hg.d1, hg.dk, hg.dl, hg.p1, hg.pl⟩, A.write (r := .strip) on rfl rfl fun r' hr' => ?_⟩
  cases r' with
  | strip => exact (hr' rfl).elim
  | _ => rfl
end
end Rb
end

section
set_option Elab.async false
set_option linter.all false
set_option maxRecDepth 100000
set_option maxHeartbeats 4000000
namespace Rb
open PySem PySem.Spec PyProof.Rows L2

theorem sum_cast (l : List Nat) : (l.map fun (n : Nat) => (n : Int)).sum = ((l.sum : Nat) : Int) := by
  induction l with
  | nil => rfl
  | cons a l ih =>
    rw [List.map_cons, List.sum_cons, List.sum_cons, ih]
    push_cast
    rfl
theorem cut_hi {xs : List V} {j : Nat} (h : j ≤ xs.length) : cutV xs none (some (j : Int)) = xs.take j := by
  unfold cutV
  have e1 : HT.sIx xs.length 0 none = 0 := rfl
  have e2 : HT.sIx xs.length xs.length (some (j : Int)) = j := by
    unfold HT.sIx
    simp
    split <;> omega
  rw [e1, e2]
  rfl
def sp_start_of (K : PySem.W.Frag) : Sp := fun vs H Q _ => ∃ (a : Addr) (ns : List Nat) (r : Nat), vs = [.ref a, .int r] ∧ SqL K H a (ns.map fun (n : Nat) => V.int (n : Int)) ∧ r ≤ ns.length ∧ ∀ H', Same H H' → Q (.int (startN ns r : Nat)) H'
theorem sc_start_of : FnScope ["lengths", "row"] ["lengths", "row"] (defScope s_start_of) := ⟨rfl, rfl, rfl, by decide +kernel, rfl, by decide +kernel, by decide +kernel⟩
theorem ok_start_of {P : Program} {w : World} {K : PySem.W.Frag} {mg : Str → Option Value} {base : Heap} (T : Txt w K mg) : FnOk P w K mg base CX0 1 (ad_start_of K) (fdOf K (ad_start_of K)) ["lengths", "row"] (sp_start_of K) := by
  refine T.f_start_of.ok sc_start_of (fun vs H Q E h => ?_) (fun cdv A outer s H vs Q E hr h => ?_)
  · obtain ⟨_, _, _, rfl, _⟩ := h
    rfl
  · have hu := hu_of hr
    have nd := sc_start_of.nd
    refine ⟨_, PSs.nox ((pss_one (ps_ret (pe_callB (cr_sum rfl) rfl T.b_sum (by decide +kernel) (pa_cons (pe_slice sl_list (pv 0) po_none (po_some (pv 1))) pa_nil))))), ?_⟩
    obtain ⟨a, ns, r, rfl, hS, hr1, kQ⟩ := h
    refine ⟨_, rfl, _, rfl, _, rfl, a, _, rfl, hS, fun p hp => ?_⟩
    rw [cut_hi (by rw [List.length_map]; exact hr1)]
    refine ⟨p, (ns.take r).map fun (n : Nat) => (n : Int), rfl, ?_, ?_⟩
    · refine SqL.of ?_
      rw [upd_same, List.map_map, ← List.map_take]
      rfl
    · rw [sum_cast]
      exact kQ _ (same_new hp)
theorem cal_start_of {P : Program} {w : World} {K : PySem.W.Frag} {mg : Str → Option Value} {base : Heap} (T : Txt w K mg) : Cal P w K mg base 1 "start_of" ["lengths", "row"] (sp_start_of K) := ⟨_, _, ok_start_of T, T.g_start_of, T.f_start_of.kp, T.f_start_of.bindsN (ps := ["lengths", "row"]) fun _ _ _ _ _ _ us hl => match us, hl with | [_, _], _ => rfl⟩
def sp_Feed_init (K : PySem.W.Frag) : Sp := fun vs H Q _ => ∃ (p dx a : Addr) (xs : List V), vs = [.ref p, .ref a] ∧ H p = some (.ins (He.ga K "Feed") dx []) ∧ SqL K H a xs ∧
  ∀ l H', H l = none → H' p = some (.ins (He.ga K "Feed") dx (feedF l 0)) → H' l = some (.lst xs) → (∀ b o, b ≠ p → H b = some o → H' b = some o) → Q .non H'
theorem sc_Feed_init : FnScope ["self", "numbers"] ["self", "numbers"] (defScope s_Feed_init) := ⟨rfl, rfl, rfl, by decide +kernel, rfl, by decide +kernel, by decide +kernel⟩
theorem ok_Feed_init {P : Program} {w : World} {K : PySem.W.Frag} {mg : Str → Option Value} {base : Heap} (T : Txt w K mg) : FnOk P w K mg base CX0 1 (ad_Feed_init K) (fdOf K (ad_Feed_init K)) ["self", "numbers"] (sp_Feed_init K) := by
  refine T.f_Feed_init.ok sc_Feed_init (fun vs H Q E h => ?_) (fun cdv A outer s H vs Q E hr h => ?_)
  · obtain ⟨_, _, _, _, rfl, _⟩ := h
    rfl
  · have hu := hu_of hr
    have nd := sc_Feed_init.nd
    refine ⟨_, PSs.nox ((pss_cons (ps_fld (pv 0) (pe_callTy call_list_of rfl T.b_list (by decide +kernel) (pa_cons (pv 1) pa_nil)) rfl)
      (pss_one (ps_fld (pv 0) pe_int rfl)))), ?_⟩
    obtain ⟨p, dx, a, xs, rfl, hp, hS, kQ⟩ := h
    refine ⟨_, rfl, a, xs, rfl, .inl hS, fun l hl => ?_⟩
    have npl : p ≠ l := ne_of_none hp hl
    refine ⟨_, rfl, p, _, dx, _, rfl, (by rw [upd_ne npl]; exact hp), T.cl_Feed, T.n_Feed_stock, (by show 0 < 1000; decide), ?_⟩
    refine ⟨_, rfl, p, _, dx, _, rfl, upd_same, T.cl_Feed, T.n_Feed_spent, (by show 1 < 1000; decide), kQ l _ hl ?_ ?_ fun b o hb e => ?_⟩
    · rw [upd_same]
      rfl
    · rw [upd_ne npl.symm, upd_ne npl.symm, upd_same]
    · rw [upd_ne hb, upd_ne hb, upd_ne (ne_of_none e hl)]
      exact e
theorem cal_Feed_init {P : Program} {w : World} {K : PySem.W.Frag} {mg : Str → Option Value} {base : Heap} (T : Txt w K mg) : CalC P w K mg base 1 "Feed" (He.ga K "Feed") ["self", "numbers"] (sp_Feed_init K) := ⟨T.g_Feed, _, _, T.mk_Feed, ok_Feed_init T, T.f_Feed_init.bindsN (ps := ["self", "numbers"]) fun _ _ _ _ _ _ us hl => match us, hl with | [_, _], _ => rfl⟩
def sp_Feed_taken (K : PySem.W.Frag) : Sp := fun vs H Q _ => ∃ (p dx l : Addr) (st : List Int) (n : Nat), vs = [.ref p] ∧ H p = some (.ins (He.ga K "Feed") dx (feedF l n)) ∧ H l = some (.lst (st.map V.int)) ∧ st.length ≤ 1000 ∧ (st = [] ∨ n < st.length) ∧
  ∀ v (n' : Nat) H', (v = 0 ∨ v ∈ st) → (st = [] ∨ n' < st.length) → H' p = some (.ins (He.ga K "Feed") dx (feedF l n')) → (∀ b, b ≠ p → H' b = H b) → Q (.int v) H'
theorem sc_Feed_taken : FnScope ["self", "number"] ["self"] (defScope s_Feed_taken) := ⟨rfl, rfl, rfl, by decide +kernel, rfl, by decide +kernel, by decide +kernel⟩
theorem ok_Feed_taken {P : Program} {w : World} {K : PySem.W.Frag} {mg : Str → Option Value} {base : Heap} (T : Txt w K mg) : FnOk P w K mg base CX0 1 (ad_Feed_taken K) (fdOf K (ad_Feed_taken K)) ["self"] (sp_Feed_taken K) := by
  refine T.f_Feed_taken.ok sc_Feed_taken (fun vs H Q E h => ?_) (fun cdv A outer s H vs Q E hr h => ?_)
  · obtain ⟨_, _, _, _, _, rfl, _⟩ := h
    rfl
  · have hu := hu_of hr
    have nd := sc_Feed_taken.nd
    refine ⟨_, PSs.nox ((pss_cons (ps_if (pt_cmpR op_eq (pe_callB call_len_seq rfl T.b_len PySem.boot_len (pa_cons (pe_fld (pv 0) rfl) pa_nil)) pe_int (nomark _))
      (pss_one (ps_ret pe_int))
      pss_nil)
      (pss_cons (ps_set (i := 1) nd rfl (Or.inl rfl) (pe_ix ix_list (pe_fld (pv 0) rfl) (pe_fld (pv 0) rfl) (fun _ _ => rfl)))
      (pss_cons (ps_fldaug (pv 0) pe_int in_add)
      (pss_cons (ps_if (pt_cmpR op_eq (pe_fld (pv 0) rfl) (pe_callB call_len_seq rfl T.b_len PySem.boot_len (pa_cons (pe_fld (pv 0) rfl) pa_nil)) (nomark _))
      (pss_one (ps_fld (pv 0) pe_int rfl))
      pss_nil)
      (pss_one (ps_ret (pv 1)))))))), ?_⟩
    obtain ⟨p, dx, l, st, n, rfl, hp, hl, hlen, hn, kQ⟩ := h
    have npl : p ≠ l := ne_of hp hl (by intro q; cases q)
    refine ⟨_, rfl, p, _, dx, _, _, rfl, hp, T.cl_Feed, T.n_Feed_stock, rfl, l, _, rfl, .inl (SqL.of hl), rfl, _, rfl, iteI (fun c => ?_) (fun c => ?_)⟩
    · exact kQ 0 n H (.inl rfl) hn hp fun _ _ => rfl
    have hst : st ≠ [] := fun z => c (by rw [z]; rfl)
    have hn' : n < st.length := hn.resolve_left hst
    have hi : (st.map V.int)[n]? = some (V.int st[n]) := by
      rw [List.getElem?_map, List.getElem?_eq_getElem hn']
      rfl
    refine ⟨_, rfl, p, _, dx, _, _, rfl, hp, T.cl_Feed, T.n_Feed_stock, rfl, _, rfl, p, _, dx, _, _, rfl, hp, T.cl_Feed, T.n_Feed_spent, rfl, l, _, _, _, rfl, rfl, SqL.of hl, atI_of rfl hi, ?_⟩
    refine ⟨_, rfl, p, _, dx, _, _, rfl, hp, T.cl_Feed, T.n_Feed_spent, rfl, _, _, rfl, rfl, dx, _, hp, (by show 2 < 1000; decide), ?_⟩
    have e1 : putF "spent" (V.int ((n : Int) + 1)) (feedF l n) = feedF l (n + 1) := by
      show ([("stock", V.ref l), ("spent", V.int ((n : Int) + 1))] : List (Str × V)) = ([("stock", V.ref l), ("spent", V.int ((n + 1 : Nat) : Int))] : List (Str × V))
      push_cast
      rfl
    rw [e1]
    have hl' : upd H p (HO.ins (He.ga K "Feed") dx (feedF l (n + 1))) l = some (.lst (st.map V.int)) := by rw [upd_ne npl.symm]; exact hl
    refine ⟨_, rfl, p, _, dx, _, _, rfl, upd_same, T.cl_Feed, T.n_Feed_spent, rfl, _, rfl, p, _, dx, _, _, rfl, upd_same, T.cl_Feed, T.n_Feed_stock, rfl, l, _, rfl, .inl (SqL.of hl'), rfl, _, rfl, iteI (fun c2 => ?_) (fun c2 => ?_)⟩
    · refine ⟨_, rfl, p, _, dx, _, rfl, upd_same, T.cl_Feed, T.n_Feed_spent, (by show 2 < 1000; decide), ?_⟩
      refine ⟨_, rfl, kQ _ 0 _ (.inr (List.getElem_mem hn')) (.inr (by omega)) ?_ fun b hb => ?_⟩
      · rw [upd_same]
        rfl
      · rw [upd_ne hb, upd_ne hb]
    · refine ⟨_, rfl, kQ _ (n + 1) _ (.inr (List.getElem_mem hn')) (.inr ?_) upd_same fun b hb => upd_ne hb⟩
      rw [List.length_map] at c2
      omega
theorem cal_Feed_taken {P : Program} {w : World} {K : PySem.W.Frag} {mg : Str → Option Value} {base : Heap} (T : Txt w K mg) : CalM P w K mg base 1 (He.ga K "Feed") "taken" ["self"] (sp_Feed_taken K) := ⟨T.cl_Feed, _, _, T.m_Feed_taken, ok_Feed_taken T, T.f_Feed_taken.bindsN (ps := ["self"]) fun _ _ _ _ _ _ us hl => match us, hl with | [_], _ => rfl⟩
def sp_Strip_init (K : PySem.W.Frag) : Sp := fun vs H Q _ => ∃ (p dx : Addr) (a b c d : Int), vs = [.ref p, .int a, .int b, .int c, .int d] ∧ H p = some (.ins (He.ga K "Strip") dx []) ∧
  ∀ l H', H l = none → H' p = some (.ins (He.ga K "Strip") dx [("many", .int a), ("group", .int b), ("base", .int c), ("began", .int d), ("width", .int d), ("faults", .ref l), ("cut", .non)]) → H' l = some (.dK []) → (∀ b o, b ≠ p → H b = some o → H' b = some o) → Q .non H'
theorem sc_Strip_init : FnScope ["self", "many", "group", "base", "width"] ["self", "many", "group", "base", "width"] (defScope s_Strip_init) := ⟨rfl, rfl, rfl, by decide +kernel, rfl, by decide +kernel, by decide +kernel⟩
theorem ok_Strip_init {P : Program} {w : World} {K : PySem.W.Frag} {mg : Str → Option Value} {base : Heap} (T : Txt w K mg) : FnOk P w K mg base CX0 1 (ad_Strip_init K) (fdOf K (ad_Strip_init K)) ["self", "many", "group", "base", "width"] (sp_Strip_init K) := by
  refine T.f_Strip_init.ok sc_Strip_init (fun vs H Q E h => ?_) (fun cdv A outer s H vs Q E hr h => ?_)
  · obtain ⟨_, _, _, _, _, _, rfl, _⟩ := h
    rfl
  · have hu := hu_of hr
    have nd := sc_Strip_init.nd
    refine ⟨_, PSs.nox ((pss_cons (ps_fld (pv 0) (pv 1) rfl)
      (pss_cons (ps_fld (pv 0) (pv 2) rfl)
      (pss_cons (ps_fld (pv 0) (pv 3) rfl)
      (pss_cons (ps_fld (pv 0) (pv 4) rfl)
      (pss_cons (ps_fld (pv 0) (pv 4) rfl)
      (pss_cons (ps_fld (pv 0) pe_dnewK rfl)
      (pss_one (ps_fld (pv 0) pe_non rfl))))))))), ?_⟩
    obtain ⟨p, dx, a, b, c, d, rfl, hp, kQ⟩ := h
    refine ⟨_, rfl, _, rfl, p, _, dx, _, rfl, hp, T.cl_Strip, T.n_Strip_many, (by show 0 < 1000; decide), ?_⟩
    refine ⟨_, rfl, _, rfl, p, _, dx, _, rfl, upd_same, T.cl_Strip, T.n_Strip_group, (by show 1 < 1000; decide), ?_⟩
    refine ⟨_, rfl, _, rfl, p, _, dx, _, rfl, upd_same, T.cl_Strip, T.n_Strip_base, (by show 2 < 1000; decide), ?_⟩
    refine ⟨_, rfl, _, rfl, p, _, dx, _, rfl, upd_same, T.cl_Strip, T.n_Strip_began, (by show 3 < 1000; decide), ?_⟩
    refine ⟨_, rfl, _, rfl, p, _, dx, _, rfl, upd_same, T.cl_Strip, T.n_Strip_width, (by show 4 < 1000; decide), ?_⟩
    rw [upd_upd, upd_upd, upd_upd, upd_upd]
    intro l hl
    have npl : p ≠ l := fun z => by rw [← z, upd_same] at hl; cases hl
    have hl0 : H l = none := by rw [upd_ne npl.symm] at hl; exact hl
    refine ⟨_, rfl, p, _, dx, _, rfl, (by rw [upd_ne npl, upd_same]), T.cl_Strip, T.n_Strip_faults, (by show 5 < 1000; decide), ?_⟩
    refine ⟨_, rfl, p, _, dx, _, rfl, upd_same, T.cl_Strip, T.n_Strip_cut, (by show 6 < 1000; decide), kQ l _ hl0 ?_ ?_ fun b o hb e => ?_⟩
    · rw [upd_same]
      rfl
    · rw [upd_ne npl.symm, upd_ne npl.symm, upd_same]
    · rw [upd_ne hb, upd_ne hb, upd_ne (ne_of_none e hl0), upd_ne hb]
      exact e
theorem cal_Strip_init {P : Program} {w : World} {K : PySem.W.Frag} {mg : Str → Option Value} {base : Heap} (T : Txt w K mg) : CalC P w K mg base 1 "Strip" (He.ga K "Strip") ["self", "many", "group", "base", "width"] (sp_Strip_init K) := ⟨T.g_Strip, _, _, T.mk_Strip, ok_Strip_init T, T.f_Strip_init.bindsN (ps := ["self", "many", "group", "base", "width"]) fun _ _ _ _ _ _ us hl => match us, hl with | [_, _, _, _, _], _ => rfl⟩
def sp_Boxes_init (K : PySem.W.Frag) : Sp := fun vs H Q _ => ∃ (p dx : Addr) (n : Nat), vs = [.ref p, .int n] ∧ H p = some (.ins (He.ga K "Boxes") dx []) ∧ n ≤ 100 ∧
  ∀ (l : Addr) (as : List Addr) H', H l = none → as.length = 8 → as.Nodup → l ∉ as → (∀ a, a ∈ as → H a = none) → H' p = some (.ins (He.ga K "Boxes") dx (boxF n l)) → H' l = some (.lst (as.map V.ref)) →
    (∀ a, a ∈ as → H' a = some (.lst (List.replicate n (V.int 0)))) → (∀ b o, b ≠ p → H b = some o → H' b = some o) → Q .non H'
theorem sc_Boxes_init : FnScope ["self", "lanes", "box"] ["self", "lanes"] (defScope s_Boxes_init) := ⟨rfl, rfl, rfl, by decide +kernel, rfl, by decide +kernel, by decide +kernel⟩
theorem ok_Boxes_init {P : Program} {w : World} {K : PySem.W.Frag} {mg : Str → Option Value} {base : Heap} (T : Txt w K mg) : FnOk P w K mg base CX0 1 (ad_Boxes_init K) (fdOf K (ad_Boxes_init K)) ["self", "lanes"] (sp_Boxes_init K) := by
  refine T.f_Boxes_init.ok sc_Boxes_init (fun vs H Q E h => ?_) (fun cdv A outer s H vs Q E hr h => ?_)
  · obtain ⟨_, _, _, rfl, _⟩ := h
    rfl
  · have hu := hu_of hr
    have nd := sc_Boxes_init.nd
    refine ⟨_, PSs.nox ((pss_cons (ps_fld (pv 0) (pv 1) rfl)
      (pss_one (ps_fld (pv 0) (pe_lc (own := [("box", 2)]) (g := gName 2) rfl nd (pi_range1 rfl T.b_range (pa_cons pe_int pa_nil)) (blkOk_by (N := ["self", "lanes", "box"]) (sc := defScope s_Boxes_init) (by decide +kernel)) (fun _ _ _ _ _ => pg_name (i := 2) nd rfl (Or.inl rfl)) (fun _ _ _ _ _ => pts_nil) (fun _ _ _ _ _ => (pe_op op_rep (pe_lst (pa_cons pe_int pa_nil)) (pv 1)))) rfl)))), ?_⟩
    obtain ⟨p, dx, n, rfl, hp, hn, kQ⟩ := h
    refine ⟨_, rfl, _, rfl, p, _, dx, _, rfl, hp, T.cl_Boxes, T.n_Boxes_lanes, (by show 0 < 1000; decide), ?_⟩
    refine ⟨_, rfl, by decide, by decide, fun D hD => ?_⟩
    have npD : p ≠ D := fun z => by rw [← z, upd_same] at hD; cases hD
    have hD0 : H D = none := by rw [upd_ne npD.symm] at hD; exact hD
    refine comp_rangeA hD (fun _ => .lst (List.replicate n (V.int 0))) (by decide) (fun i H' hi s1 Q' q => ?_) (fun H' as s1 h1 hlen nd nD ha => ?_)
    · refine ⟨(by show 1 ≤ sizeLine; decide), fun c hc => ?_⟩
      refine ⟨_, rfl, c, _, _, rfl, rfl, upd_same, Int.le_trans (by decide) (Int.natCast_nonneg n), Int.lt_of_le_of_lt (by omega : (n : Int) ≤ 100) (by decide), sz_le (by simp; omega), fun z hz => ?_⟩
      have ncz : c ≠ z := fun e => by rw [← e, upd_same] at hz; cases hz
      have hz0 : H' z = none := by rw [upd_ne ncz.symm] at hz; exact hz
      refine q z _ hz0 (fun b o e => ?_) ?_
      · rw [upd_ne (ne_of_none e hz0), upd_ne (ne_of_none e hc)]
        exact e
      · rw [upd_same]
        congr 2
        simp
    · have hp1 := s1 p _ upd_same
      refine ⟨_, rfl, p, _, dx, _, rfl, hp1, T.cl_Boxes, T.n_Boxes_boxes, (by show 1 < 1000; decide), ?_⟩
      have hfree : ∀ a, a ∈ as → H a = none := fun a hm => by
        obtain ⟨j, hj⟩ := List.mem_iff_getElem?.mp hm
        have h2 := (ha j a hj).1
        have npa : a ≠ p := fun z => by rw [z, upd_same] at h2; cases h2
        rw [upd_ne npa] at h2
        exact h2
      have nap : ∀ a, a ∈ as → a ≠ p := fun a hm z => by
        have := hfree a hm
        rw [z, hp] at this
        cases this
      refine kQ D as _ hD0 hlen nd nD hfree ?_ ?_ (fun a hm => ?_) fun b o hb e => ?_
      · rw [upd_same]
        rfl
      · rw [upd_ne npD.symm]
        exact h1
      · rw [upd_ne (nap a hm)]
        obtain ⟨j, hj⟩ := List.mem_iff_getElem?.mp hm
        exact (ha j a hj).2
      · rw [upd_ne hb]
        exact s1 b o (by rw [upd_ne hb]; exact e)
theorem cal_Boxes_init {P : Program} {w : World} {K : PySem.W.Frag} {mg : Str → Option Value} {base : Heap} (T : Txt w K mg) : CalC P w K mg base 1 "Boxes" (He.ga K "Boxes") ["self", "lanes"] (sp_Boxes_init K) := ⟨T.g_Boxes, _, _, T.mk_Boxes, ok_Boxes_init T, T.f_Boxes_init.bindsN (ps := ["self", "lanes"]) fun _ _ _ _ _ _ us hl => match us, hl with | [_, _], _ => rfl⟩
end Rb
end

section
set_option Elab.async false
set_option linter.all false
set_option maxRecDepth 100000
set_option maxHeartbeats 4000000
namespace Rb
open PySem PySem.Spec PyProof.Rows L2

section
variable {w : World} {K : PySem.W.Frag} {mg : Str → Option Value} {H0 H1 H H' : Hp} {ad : Ro → Addr} {m m' : MS}
/-- a number of the dust, and what the bench is behind it -/
theorem BA.dust (B : BA K H0 ad m H) : ∃ dx fs, H (ad .dustO) = some (.ins (He.ga K "Feed") dx fs) ∧ List.lookup ("taken" : Str) fs = none ∧ ∀ (σ : L2.St) (Q : VK) (E : XK), (∀ n H', KR n → BA K H0 ad m H' → Q (.int n) H') → tNil σ H (fun vs H2 => sp_Feed_taken K (.ref (ad .dustO) :: (vs ++ [])) H2 Q E) := by
  obtain ⟨wf, g, hg, A⟩ := B
  refine ⟨_, _, A.at_ .dustO rfl, rfl, fun σ Q E q => ⟨_, _, _, g.dst, g.dsp, rfl, A.at_ .dustO rfl, A.at_ .dustL rfl, hg.dl, hg.d1, fun v n' H' hv hn h1 h2 => q v H' ?_ ?_⟩⟩
  · rcases hv with e | e
    · rw [e]
      exact ⟨by decide, by decide⟩
    · exact hg.dk v e
  · have hx : H' = upd H (ad .dustO) (.ins (He.ga K "Feed") (g.dx .dustO) (feedF (ad .dustL) n')) := by
      funext b
      by_cases e : b = ad .dustO
      · subst e
        rw [h1, upd_same]
      · rw [h2 b e, upd_ne e]
    rw [hx]
    refine ⟨wf, { g with dsp := n' }, ⟨hg.tch, hg.kvl, hg.kv, hn, hg.dk, hg.dl, hg.p1, hg.pl⟩, A.write (r := .dustO) rfl rfl rfl fun r' hr' => ?_⟩
    cases r' with
    | dustO => exact (hr' rfl).elim
    | _ => rfl
theorem BA.picks (B : BA K H0 ad m H) : ∃ dx fs, H (ad .picksO) = some (.ins (He.ga K "Feed") dx fs) ∧ List.lookup ("taken" : Str) fs = none ∧ ∀ (σ : L2.St) (Q : VK) (E : XK), (∀ n H', BA K H0 ad m H' → Q (.int n) H') → tNil σ H (fun vs H2 => sp_Feed_taken K (.ref (ad .picksO) :: (vs ++ [])) H2 Q E) := by
  obtain ⟨wf, g, hg, A⟩ := B
  refine ⟨_, _, A.at_ .picksO rfl, rfl, fun σ Q E q => ⟨_, _, _, g.pst, g.psp, rfl, A.at_ .picksO rfl, A.at_ .picksL rfl, hg.pl, hg.p1, fun v n' H' hv hn h1 h2 => q v H' ?_⟩⟩
  have hx : H' = upd H (ad .picksO) (.ins (He.ga K "Feed") (g.dx .picksO) (feedF (ad .picksL) n')) := by
    funext b
    by_cases e : b = ad .picksO
    · subst e
      rw [h1, upd_same]
    · rw [h2 b e, upd_ne e]
  rw [hx]
  refine ⟨wf, { g with psp := n' }, ⟨hg.tch, hg.kvl, hg.kv, hg.d1, hg.dk, hg.dl, hn, hg.pl⟩, A.write (r := .picksO) rfl rfl rfl fun r' hr' => ?_⟩
  cases r' with
  | picksO => exact (hr' rfl).elim
  | _ => rfl
theorem nat_box (p g j l : Nat) : (p : Int) * (g : Int) + (j : Int) / (l : Int) = ((p * g + j / l : Nat) : Int) := by
  push_cast
  rfl
theorem CDiv.nat {i : Int} {j : Nat} (h1 : 1 ≤ j) (h2 : j ≤ 100000) : CDiv i (j : Int) := ⟨by omega, by omega⟩
end
def sp_Boxes_lay (K : PySem.W.Frag) : Sp := fun vs H Q _ => ∃ (H0 : Hp) (ad : Ro → Addr) (m : MS) (p j : Nat) (v : Int), vs = [.ref (ad .boxesO), .int m.g, .int p, .int j, .int v] ∧ BA K H0 ad m H ∧ KR v ∧ p < 8 / m.g ∧ j < m.g * m.lanes ∧
  ∀ H', BA K H0 ad { m with sn := upd2 m.sn p j v } H' → Q .non H'
theorem sc_Boxes_lay : FnScope ["self", "group", "seat", "lane", "number", "box"] ["self", "group", "seat", "lane", "number"] (defScope s_Boxes_lay) := ⟨rfl, rfl, rfl, by decide +kernel, rfl, by decide +kernel, by decide +kernel⟩
theorem ok_Boxes_lay {P : Program} {w : World} {K : PySem.W.Frag} {mg : Str → Option Value} {base : Heap} (T : Txt w K mg) : FnOk P w K mg base CX0 1 (ad_Boxes_lay K) (fdOf K (ad_Boxes_lay K)) ["self", "group", "seat", "lane", "number"] (sp_Boxes_lay K) := by
  refine T.f_Boxes_lay.ok sc_Boxes_lay (fun vs H Q E h => ?_) (fun cdv A outer s H vs Q E hr h => ?_)
  · obtain ⟨_, _, _, _, _, _, rfl, _⟩ := h
    rfl
  · have hu := hu_of hr
    have nd := sc_Boxes_lay.nd
    refine ⟨_, PSs.nox ((pss_cons (ps_set (i := 5) nd rfl (Or.inl rfl) (pe_op op_add (pe_op op_mul (pv 2) (pv 1)) (pe_op op_fdiv (pv 3) (pe_fld (pv 0) rfl))))
      (pss_one (ps_asg (pv 4) (pg_sub (pe_ix ix_list (pe_fld (pv 0) rfl) (pv 5) (fun _ _ => rfl)) (pe_op op_mod (pv 3) (pe_fld (pv 0) rfl)) set_list))))), ?_⟩
    obtain ⟨H0, ad, m, p, j, v, rfl, B, hv, hp, hj, kQ⟩ := h
    have wf := B.wf
    obtain ⟨b1, b2, b3, b4, b5⟩ := wf.p8 hp hj
    have g4 : m.g ≤ 4 := by rcases wf.g3 with e | e | e <;> omega
    have hg : -18446744073709551616 < (m.g : Int) ∧ (m.g : Int) < 18446744073709551616 := by omega
    refine ⟨_, rfl, _, rfl, _, _, rfl, rfl, cm2 hg, _, rfl, _, rfl, B.fX T rfl T.n_Boxes_lanes ⟨_, _, rfl, rfl, CDiv.nat wf.l1 (by have := wf.l2; omega), _, _, rfl, rfl, ?_⟩⟩
    have hbL := B.lst (r := .boxesL) rfl (xs := (List.range 8).map fun i => .ref (ad (.box i))) fun _ => rfl
    have hb := B.lst (r := .box (p * m.g + j / m.lanes)) (decide_eq_true b1) (xs := _) fun _ => rfl
    refine ⟨_, rfl, _, rfl, B.fX T rfl T.n_Boxes_boxes ⟨_, rfl, _, _, _, _, rfl, rfl, SqL.of hbL, atI_of (nat_box _ _ _ _) (rm_get b1), ?_⟩⟩
    refine ⟨_, rfl, _, rfl, B.fX T rfl T.n_Boxes_lanes ⟨_, _, rfl, rfl, (by have := wf.l1; show (0 : Int) < (m.lanes : Int); omega), ?_⟩⟩
    refine ⟨_, _, _, j % m.lanes, rfl, rfl, hb, ixN_of (by push_cast; rfl) (by rw [List.length_map, List.length_range]; exact b5), kQ _ (B.w_sn hv hp hj)⟩
theorem cal_Boxes_lay {P : Program} {w : World} {K : PySem.W.Frag} {mg : Str → Option Value} {base : Heap} (T : Txt w K mg) : CalM P w K mg base 1 (He.ga K "Boxes") "lay" ["self", "group", "seat", "lane", "number"] (sp_Boxes_lay K) := ⟨T.cl_Boxes, _, _, T.m_Boxes_lay, ok_Boxes_lay T, T.f_Boxes_lay.bindsN (ps := ["self", "group", "seat", "lane", "number"]) fun _ _ _ _ _ _ us hl => match us, hl with | [_, _, _, _, _], _ => rfl⟩
def sp_Boxes_number_at (K : PySem.W.Frag) : Sp := fun vs H Q _ => ∃ (H0 : Hp) (ad : Ro → Addr) (m : MS) (p j : Nat), vs = [.ref (ad .boxesO), .int m.g, .int p, .int j] ∧ BA K H0 ad m H ∧ p < 8 / m.g ∧ j < m.g * m.lanes ∧ Q (.int (m.sn p j)) H
theorem sc_Boxes_number_at : FnScope ["self", "group", "seat", "lane", "box"] ["self", "group", "seat", "lane"] (defScope s_Boxes_number_at) := ⟨rfl, rfl, rfl, by decide +kernel, rfl, by decide +kernel, by decide +kernel⟩
theorem ok_Boxes_number_at {P : Program} {w : World} {K : PySem.W.Frag} {mg : Str → Option Value} {base : Heap} (T : Txt w K mg) : FnOk P w K mg base CX0 1 (ad_Boxes_number_at K) (fdOf K (ad_Boxes_number_at K)) ["self", "group", "seat", "lane"] (sp_Boxes_number_at K) := by
  refine T.f_Boxes_number_at.ok sc_Boxes_number_at (fun vs H Q E h => ?_) (fun cdv A outer s H vs Q E hr h => ?_)
  · obtain ⟨_, _, _, _, _, rfl, _⟩ := h
    rfl
  · have hu := hu_of hr
    have nd := sc_Boxes_number_at.nd
    refine ⟨_, PSs.nox ((pss_cons (ps_set (i := 4) nd rfl (Or.inl rfl) (pe_op op_add (pe_op op_mul (pv 2) (pv 1)) (pe_op op_fdiv (pv 3) (pe_fld (pv 0) rfl))))
      (pss_one (ps_ret (pe_ix ix_list (pe_ix ix_list (pe_fld (pv 0) rfl) (pv 4) (fun _ _ => rfl)) (pe_op op_mod (pv 3) (pe_fld (pv 0) rfl)) (fun _ _ => rfl)))))), ?_⟩
    obtain ⟨H0, ad, m, p, j, rfl, B, hp, hj, kQ⟩ := h
    have wf := B.wf
    obtain ⟨b1, b2, b3, b4, b5⟩ := wf.p8 hp hj
    have g4 : m.g ≤ 4 := by rcases wf.g3 with e | e | e <;> omega
    have hg : -18446744073709551616 < (m.g : Int) ∧ (m.g : Int) < 18446744073709551616 := by omega
    refine ⟨_, rfl, _, rfl, _, _, rfl, rfl, cm2 hg, _, rfl, _, rfl, B.fX T rfl T.n_Boxes_lanes ⟨_, _, rfl, rfl, CDiv.nat wf.l1 (by have := wf.l2; omega), _, _, rfl, rfl, ?_⟩⟩
    have hbL := B.lst (r := .boxesL) rfl (xs := (List.range 8).map fun i => .ref (ad (.box i))) fun _ => rfl
    have hb := B.lst (r := .box (p * m.g + j / m.lanes)) (decide_eq_true b1) (xs := _) fun _ => rfl
    refine ⟨_, rfl, B.fX T rfl T.n_Boxes_boxes ⟨_, rfl, _, _, _, _, rfl, rfl, SqL.of hbL, atI_of (nat_box _ _ _ _) (rm_get b1), ?_⟩⟩
    refine ⟨_, rfl, _, rfl, B.fX T rfl T.n_Boxes_lanes ⟨_, _, rfl, rfl, (by have := wf.l1; show (0 : Int) < (m.lanes : Int); omega), ?_⟩⟩
    refine ⟨_, _, _, _, rfl, rfl, SqL.of hb, atI_of (j := j % m.lanes) (by push_cast; rfl) (rm_get b5), ?_⟩
    have ej : j / m.lanes * m.lanes + j % m.lanes = j := by rw [Nat.mul_comm]; exact Nat.div_add_mod j m.lanes
    rw [b2, b3, ej]
    exact kQ
theorem cal_Boxes_number_at {P : Program} {w : World} {K : PySem.W.Frag} {mg : Str → Option Value} {base : Heap} (T : Txt w K mg) : CalM P w K mg base 1 (He.ga K "Boxes") "number_at" ["self", "group", "seat", "lane"] (sp_Boxes_number_at K) := ⟨T.cl_Boxes, _, _, T.m_Boxes_number_at, ok_Boxes_number_at T, T.f_Boxes_number_at.bindsN (ps := ["self", "group", "seat", "lane"]) fun _ _ _ _ _ _ us hl => match us, hl with | [_, _, _, _], _ => rfl⟩
def sp_seat_number (K : PySem.W.Frag) : Sp := fun vs H Q _ => ∃ (H0 : Hp) (ad : Ro → Addr) (m : MS) (p j : Nat), vs = [.ref (ad .bench), .int p, .int j] ∧ BA K H0 ad m H ∧ m.on = true ∧ p < 8 / m.g ∧ j < m.g * m.lanes ∧ Q (.int (m.sn p j)) H
theorem sc_seat_number : FnScope ["bench", "seat", "lane"] ["bench", "seat", "lane"] (defScope s_seat_number) := ⟨rfl, rfl, rfl, by decide +kernel, rfl, by decide +kernel, by decide +kernel⟩
theorem ok_seat_number {P : Program} {w : World} {K : PySem.W.Frag} {mg : Str → Option Value} {base : Heap} (T : Txt w K mg) : FnOk P w K mg base CX0 2 (ad_seat_number K) (fdOf K (ad_seat_number K)) ["bench", "seat", "lane"] (sp_seat_number K) := by
  have C_Boxes_number_at := cal_Boxes_number_at (P := P) (base := base) T
  refine T.f_seat_number.ok sc_seat_number (fun vs H Q E h => ?_) (fun cdv A outer s H vs Q E hr h => ?_)
  · obtain ⟨_, _, _, _, _, rfl, _⟩ := h
    rfl
  · have hu := hu_of hr
    have nd := sc_seat_number.nd
    refine ⟨_, PSs.nox ((pss_one (ps_ret (pe_clm (pe_fld (pv 0) rfl) C_Boxes_number_at (hr.mono (by decide)) (pa_cons (pe_fld (pe_fld (pv 0) rfl) rfl) (pa_cons (pv 1) (pa_cons (pv 2) pa_nil))))))), ?_⟩
    obtain ⟨H0, ad, m, p, j, rfl, B, on, hp, hj, kQ⟩ := h
    obtain ⟨g, hg, hX⟩ := B.at1 (r := .boxesO) rfl
    refine ⟨_, rfl, B.fB T (fun _ => rfl) T.n_Bench_boxes ⟨_, _, _, rfl, hX, rfl, _, rfl, B.now T on (B.fS T on rfl T.n_Strip_group ⟨_, rfl, _, rfl, H0, ad, m, p, j, rfl, B, hp, hj, kQ⟩)⟩⟩
theorem cal_seat_number {P : Program} {w : World} {K : PySem.W.Frag} {mg : Str → Option Value} {base : Heap} (T : Txt w K mg) : Cal P w K mg base 2 "seat_number" ["bench", "seat", "lane"] (sp_seat_number K) := ⟨_, _, ok_seat_number T, T.g_seat_number, T.f_seat_number.kp, T.f_seat_number.bindsN (ps := ["bench", "seat", "lane"]) fun _ _ _ _ _ _ us hl => match us, hl with | [_, _, _], _ => rfl⟩
def MS.act (m : MS) (k j : Nat) : Bool := decide (j < m.width) && ((m.fl j).isNone && m.ma k j)
def MS.actL (m : MS) (k : Nat) : List Nat := (List.range m.width).filter (m.act k)
theorem MS.WF.w4 {m : MS} (wf : m.WF) : m.width ≤ 4 * m.lanes := by
  have h := wf.wd
  rcases wf.g3 with e | e | e <;> rw [e] at h <;> omega
theorem MS.WF.w256 {m : MS} (wf : m.WF) : m.g * m.lanes ≤ 4 * m.lanes ∧ 4 * m.lanes ≤ 256 := by
  have h := wf.l2
  refine ⟨?_, by omega⟩
  rcases wf.g3 with e | e | e <;> rw [e] <;> omega
def sp_lane_active (K : PySem.W.Frag) : Sp := fun vs H Q _ => ∃ (H0 : Hp) (ad : Ro → Addr) (m : MS) (k j : Nat), vs = [.ref (ad .bench), .int k, .int j] ∧ BA K H0 ad m H ∧ m.on = true ∧ k < 16 ∧ Q (.bl (m.act k j)) H
theorem sc_lane_active : FnScope ["bench", "mask", "lane"] ["bench", "mask", "lane"] (defScope s_lane_active) := ⟨rfl, rfl, rfl, by decide +kernel, rfl, by decide +kernel, by decide +kernel⟩
theorem ok_lane_active {P : Program} {w : World} {K : PySem.W.Frag} {mg : Str → Option Value} {base : Heap} (T : Txt w K mg) : FnOk P w K mg base CX0 1 (ad_lane_active K) (fdOf K (ad_lane_active K)) ["bench", "mask", "lane"] (sp_lane_active K) := by
  refine T.f_lane_active.ok sc_lane_active (fun vs H Q E h => ?_) (fun cdv A outer s H vs Q E hr h => ?_)
  · obtain ⟨_, _, _, _, _, rfl, _⟩ := h
    rfl
  · have hu := hu_of hr
    have nd := sc_lane_active.nd
    refine ⟨_, PSs.nox ((pss_cons (ps_if (PW.pt (pw_or (pt_cmpR op_ge (pv 2) (pe_fld (pe_fld (pv 0) rfl) rfl) (nomark _)) (pw_or1 (pt_cmp (pc_din hu (pv 2) (pe_fld (pe_fld (pv 0) rfl) rfl))))))
      (pss_one (ps_ret pe_bl))
      pss_nil)
      (pss_one (ps_ret (pe_ix ix_list (pe_ix ix_list (pe_fld (pv 0) rfl) (pv 1) (fun _ _ => rfl)) (pv 2) (fun _ _ => rfl)))))), ?_⟩
    obtain ⟨H0, ad, m, k, j, rfl, B, on, hk, kQ⟩ := h
    refine ⟨_, rfl, _, rfl, B.now T on (B.fS T on rfl T.n_Strip_width ⟨_, _, rfl, rfl, _, rfl, iteD (fun c => ?_) (fun c => ?_)⟩)⟩
    · have e : m.act k j = false := by
        unfold MS.act
        rw [decide_eq_false (by omega)]
        rfl
      rw [e] at kQ
      exact iteT (B := True) kQ
    have hj : j < m.width := by omega
    obtain ⟨o, ho, eo⟩ := B.din on j
    refine ⟨_, rfl, _, rfl, B.now T on (B.fS T on rfl T.n_Strip_faults ⟨_, o, rfl, ho, _, rfl, ?_⟩)⟩
    rw [eo]
    cases hf : m.fl j with
    | some s =>
      have e : m.act k j = false := by
        unfold MS.act
        rw [hf]
        simp
      rw [e] at kQ
      exact kQ
    | none =>
      have e : m.act k j = m.ma k j := by
        unfold MS.act
        rw [hf, decide_eq_true hj]
        rfl
      rw [e] at kQ
      have hmL := B.lst (r := .masksL) rfl (xs := (List.range 16).map fun i => .ref (ad (.mask i))) fun _ => rfl
      have hm := B.lst (r := .mask k) (decide_eq_true hk) (xs := _) fun _ => rfl
      have hw := B.wf.w4
      refine ⟨_, rfl, B.fB T (fun _ => rfl) T.n_Bench_masks ⟨_, rfl, _, _, _, _, rfl, rfl, SqL.of hmL, atI_of rfl (rm_get hk), _, rfl, _, _, _, _, rfl, rfl, SqL.of hm, atI_of rfl (rm_get (by omega)), kQ⟩⟩
theorem cal_lane_active {P : Program} {w : World} {K : PySem.W.Frag} {mg : Str → Option Value} {base : Heap} (T : Txt w K mg) : Cal P w K mg base 1 "lane_active" ["bench", "mask", "lane"] (sp_lane_active K) := ⟨_, _, ok_lane_active T, T.g_lane_active, T.f_lane_active.kp, T.f_lane_active.bindsN (ps := ["bench", "mask", "lane"]) fun _ _ _ _ _ _ us hl => match us, hl with | [_, _, _], _ => rfl⟩
def sp_active_lanes (K : PySem.W.Frag) : Sp := fun vs H Q _ => ∃ (H0 : Hp) (ad : Ro → Addr) (m : MS) (k : Nat), vs = [.ref (ad .bench), .int k] ∧ BA K H0 ad m H ∧ m.on = true ∧ k < 16 ∧
  ∀ p H', H p = none → Same H H' → H' p = some (.lst ((m.actL k).map fun (j : Nat) => V.int (j : Int))) → Q (.ref p) H'
theorem sc_active_lanes : FnScope ["bench", "mask", "lane"] ["bench", "mask"] (defScope s_active_lanes) := ⟨rfl, rfl, rfl, by decide +kernel, rfl, by decide +kernel, by decide +kernel⟩
theorem ok_active_lanes {P : Program} {w : World} {K : PySem.W.Frag} {mg : Str → Option Value} {base : Heap} (T : Txt w K mg) : FnOk P w K mg base CX0 2 (ad_active_lanes K) (fdOf K (ad_active_lanes K)) ["bench", "mask"] (sp_active_lanes K) := by
  have C_lane_active := cal_lane_active (P := P) (base := base) T
  refine T.f_active_lanes.ok sc_active_lanes (fun vs H Q E h => ?_) (fun cdv A outer s H vs Q E hr h => ?_)
  · obtain ⟨_, _, _, _, rfl, _⟩ := h
    rfl
  · have hu := hu_of hr
    have nd := sc_active_lanes.nd
    refine ⟨_, PSs.nox ((pss_one (ps_ret (pe_lc (own := [("lane", 2)]) (g := gName 2) rfl nd (pi_range1 rfl T.b_range (pa_cons (pe_fld (pe_fld (pv 0) rfl) rfl) pa_nil)) (blkOk_by (N := ["bench", "mask", "lane"]) (sc := defScope s_active_lanes) (by decide +kernel)) (fun _ _ _ _ _ => pg_name (i := 2) nd rfl (Or.inl rfl)) (fun _ _ _ _ _ => (pts_one (pt_val (pe_cl C_lane_active (hr.mono (by decide)) (pa_cons (pv 0) (pa_cons (pv 1) (pa_cons (pv 2) pa_nil))))))) (fun _ _ _ _ _ => (pv 2)))))), ?_⟩
    obtain ⟨H0, ad, m, k, rfl, B, on, hk, kQ⟩ := h
    have hw := B.wf.w4
    have hw2 := B.wf.w256
    refine ⟨_, rfl, B.now T on (B.fS T on rfl T.n_Strip_width ⟨_, rfl, by omega, by omega, fun D hD => ?_⟩)⟩
    rw [Int.toNat_natCast]
    refine comp_rangeF hD (fun j => V.int (j : Int)) (m.act k) (by omega) (fun i H' hi s1 Q' q => ?_) (fun i H' hi hti s1 Q' q => ?_) (fun H' s1 h1 => kQ _ _ hD s1 h1)
    · refine ⟨_, rfl, _, rfl, _, rfl, H0, ad, m, k, i, ?_, B.sm s1, on, hk, _, rfl, q _ (Same.refl _)⟩
      show [V.ref (ad Ro.bench), V.int k, V.int (0 + (i : Int))] ++ [] = _
      rw [Int.zero_add]
      rfl
    · refine ⟨_, rfl, ?_⟩
      have e : (0 : Int) + (i : Int) = (i : Int) := Int.zero_add _
      rw [e]
      exact q _ (Same.refl _)
theorem cal_active_lanes {P : Program} {w : World} {K : PySem.W.Frag} {mg : Str → Option Value} {base : Heap} (T : Txt w K mg) : Cal P w K mg base 2 "active_lanes" ["bench", "mask"] (sp_active_lanes K) := ⟨_, _, ok_active_lanes T, T.g_active_lanes, T.f_active_lanes.kp, T.f_active_lanes.bindsN (ps := ["bench", "mask"]) fun _ _ _ _ _ _ us hl => match us, hl with | [_, _], _ => rfl⟩
end Rb
end

section
set_option Elab.async false
set_option linter.all false
set_option maxRecDepth 100000
set_option maxHeartbeats 4000000
namespace Rb
open PySem PySem.Spec PyProof.Rows L2

def sp_read_cell (K : PySem.W.Frag) : Sp := fun vs H Q _ => ∃ (H0 : Hp) (ad : Ro → Addr) (m : MS) (r i n : Nat), vs = [.ref (ad .bench), .int r, .int i] ∧ BA K H0 ad m H ∧ m.len[r]? = some n ∧ i < n ∧ m.tn < 10000000 ∧
  ∀ H', BA K H0 ad { m with tn := m.tn + 1 } H' → Q (.int (m.rc r i)) H'
theorem sc_read_cell : FnScope ["bench", "row", "at", "address"] ["bench", "row", "at"] (defScope s_read_cell) := ⟨rfl, rfl, rfl, by decide +kernel, rfl, by decide +kernel, by decide +kernel⟩
theorem ok_read_cell {P : Program} {w : World} {K : PySem.W.Frag} {mg : Str → Option Value} {base : Heap} (T : Txt w K mg) : FnOk P w K mg base CX0 2 (ad_read_cell K) (fdOf K (ad_read_cell K)) ["bench", "row", "at"] (sp_read_cell K) := by
  have C_start_of := cal_start_of (P := P) (base := base) T
  refine T.f_read_cell.ok sc_read_cell (fun vs H Q E h => ?_) (fun cdv A outer s H vs Q E hr h => ?_)
  · obtain ⟨_, _, _, _, _, _, rfl, _⟩ := h
    rfl
  · have hu := hu_of hr
    have nd := sc_read_cell.nd
    refine ⟨_, PSs.nox ((pss_cons (ps_set (i := 3) nd rfl (Or.inl rfl) (pe_op op_add (pe_cl C_start_of (hr.mono (by decide)) (pa_cons (pe_fld (pv 0) rfl) (pa_cons (pv 1) pa_nil))) (pv 2)))
      (pss_cons (ps_expr (pe_bm PySem.F.plainAttrs_list PySem.F.slot_list_append PySem.F.type_list_append mt_append (pe_fld (pv 0) rfl) (pa_cons (pe_tup (pa_cons (pe_fld (pv 0) rfl) (pa_cons pe_str (pa_cons (pv 3) pa_nil)))) pa_nil)))
      (pss_one (ps_ret (pe_ix ix_list (pe_fld (pv 0) rfl) (pv 3) (fun _ _ => rfl))))))), ?_⟩
    obtain ⟨H0, ad, m, r, i, n, rfl, B, hr1, hi, ht, kQ⟩ := h
    have hL := B.lst (r := .lens) rfl (xs := _) fun _ => rfl
    have hlt : r < m.len.length := (List.getElem?_eq_some_iff.mp hr1).1
    refine ⟨_, rfl, B.fB T (fun _ => rfl) T.n_Bench_lengths ⟨_, rfl, _, m.len, r, rfl, SqL.of hL, Nat.le_of_lt hlt, fun H1 s1 => ?_⟩⟩
    have B1 := B.sm s1
    obtain ⟨g, hg, hB⟩ := B1.at1 (r := .bench) rfl
    refine ⟨_, rfl, _, _, rfl, rfl, _, rfl, B1.fB T (fun _ => rfl) T.n_Bench_touches ⟨B1.touchTy, ?_⟩⟩
    refine ⟨_, rfl, _, _, _, _, _, rfl, hB, T.cl_Bench, T.n_Bench_place, rfl, _, rfl, by show 3 ≤ sizeLine; decide, fun p hp => ?_⟩
    have B2 := B1.sm (same_new (o := .tup [V.int g.place, V.str "read", V.int (((startN m.len r : Nat) : Int) + (i : Int))]) hp)
    obtain ⟨ts, h1, h2, h3⟩ := B2.w_touch ht
    refine ⟨_, ts, _, rfl, rfl, h1, h2, ?_⟩
    have B3 := h3 (.ref p)
    have hC := B3.lst (r := .cells) rfl (xs := _) fun _ => rfl
    have e := flat_get m.rc m.len 0 r i n hr1 hi
    rw [Nat.zero_add] at e
    refine ⟨_, rfl, B3.fB T (fun _ => rfl) T.n_Bench_cells ⟨_, rfl, _, _, _, _, rfl, rfl, SqL.of hC, atI_of (j := startN m.len r + i) (by push_cast; rfl) (x := .int (m.rc r i)) ?_, kQ _ B3⟩⟩
    rw [List.getElem?_map, e]
    rfl
theorem cal_read_cell {P : Program} {w : World} {K : PySem.W.Frag} {mg : Str → Option Value} {base : Heap} (T : Txt w K mg) : Cal P w K mg base 2 "read_cell" ["bench", "row", "at"] (sp_read_cell K) := ⟨_, _, ok_read_cell T, T.g_read_cell, T.f_read_cell.kp, T.f_read_cell.bindsN (ps := ["bench", "row", "at"]) fun _ _ _ _ _ _ us hl => match us, hl with | [_, _, _], _ => rfl⟩
def sp_write_cell (K : PySem.W.Frag) : Sp := fun vs H Q _ => ∃ (H0 : Hp) (ad : Ro → Addr) (m : MS) (r i n : Nat) (v : Int), vs = [.ref (ad .bench), .int r, .int i, .int v] ∧ BA K H0 ad m H ∧ m.len[r]? = some n ∧ i < n ∧ m.tn < 10000000 ∧ KR v ∧
  ∀ H', BA K H0 ad { m with tn := m.tn + 1, rc := upd2 m.rc r i v } H' → Q .non H'
theorem sc_write_cell : FnScope ["bench", "row", "at", "number", "address"] ["bench", "row", "at", "number"] (defScope s_write_cell) := ⟨rfl, rfl, rfl, by decide +kernel, rfl, by decide +kernel, by decide +kernel⟩
theorem ok_write_cell {P : Program} {w : World} {K : PySem.W.Frag} {mg : Str → Option Value} {base : Heap} (T : Txt w K mg) : FnOk P w K mg base CX0 2 (ad_write_cell K) (fdOf K (ad_write_cell K)) ["bench", "row", "at", "number"] (sp_write_cell K) := by
  have C_start_of := cal_start_of (P := P) (base := base) T
  refine T.f_write_cell.ok sc_write_cell (fun vs H Q E h => ?_) (fun cdv A outer s H vs Q E hr h => ?_)
  · obtain ⟨_, _, _, _, _, _, _, rfl, _⟩ := h
    rfl
  · have hu := hu_of hr
    have nd := sc_write_cell.nd
    refine ⟨_, PSs.nox ((pss_cons (ps_set (i := 4) nd rfl (Or.inl rfl) (pe_op op_add (pe_cl C_start_of (hr.mono (by decide)) (pa_cons (pe_fld (pv 0) rfl) (pa_cons (pv 1) pa_nil))) (pv 2)))
      (pss_cons (ps_expr (pe_bm PySem.F.plainAttrs_list PySem.F.slot_list_append PySem.F.type_list_append mt_append (pe_fld (pv 0) rfl) (pa_cons (pe_tup (pa_cons (pe_fld (pv 0) rfl) (pa_cons pe_str (pa_cons (pv 4) pa_nil)))) pa_nil)))
      (pss_one (ps_asg (pv 3) (pg_sub (pe_fld (pv 0) rfl) (pv 4) set_list)))))), ?_⟩
    obtain ⟨H0, ad, m, r, i, n, v, rfl, B, hr1, hi, ht, hv, kQ⟩ := h
    have hL := B.lst (r := .lens) rfl (xs := _) fun _ => rfl
    have hlt : r < m.len.length := (List.getElem?_eq_some_iff.mp hr1).1
    refine ⟨_, rfl, B.fB T (fun _ => rfl) T.n_Bench_lengths ⟨_, rfl, _, m.len, r, rfl, SqL.of hL, Nat.le_of_lt hlt, fun H1 s1 => ?_⟩⟩
    have B1 := B.sm s1
    obtain ⟨g, hg, hB⟩ := B1.at1 (r := .bench) rfl
    refine ⟨_, rfl, _, _, rfl, rfl, _, rfl, B1.fB T (fun _ => rfl) T.n_Bench_touches ⟨B1.touchTy, ?_⟩⟩
    refine ⟨_, rfl, _, _, _, _, _, rfl, hB, T.cl_Bench, T.n_Bench_place, rfl, _, rfl, by show 3 ≤ sizeLine; decide, fun p hp => ?_⟩
    have B2 := B1.sm (same_new (o := .tup [V.int g.place, V.str "write", V.int (((startN m.len r : Nat) : Int) + (i : Int))]) hp)
    obtain ⟨ts, h1, h2, h3⟩ := B2.w_touch ht
    refine ⟨_, ts, _, rfl, rfl, h1, h2, ?_⟩
    have B3 := h3 (.ref p)
    have hC := B3.lst (r := .cells) rfl (xs := _) fun _ => rfl
    have e := flat_get m.rc m.len 0 r i n hr1 hi
    have hsz : startN m.len r + i < (flat m.len 0 m.rc).length := (List.getElem?_eq_some_iff.mp e).1
    refine ⟨_, rfl, _, rfl, B3.fB T (fun _ => rfl) T.n_Bench_cells ⟨_, rfl, _, _, _, startN m.len r + i, rfl, rfl, hC, ixN_of (by push_cast; rfl) (by rw [List.length_map]; exact hsz), kQ _ (B3.w_cell hv hr1 hi)⟩⟩
theorem cal_write_cell {P : Program} {w : World} {K : PySem.W.Frag} {mg : Str → Option Value} {base : Heap} (T : Txt w K mg) : Cal P w K mg base 2 "write_cell" ["bench", "row", "at", "number"] (sp_write_cell K) := ⟨_, _, ok_write_cell T, T.g_write_cell, T.f_write_cell.kp, T.f_write_cell.bindsN (ps := ["bench", "row", "at", "number"]) fun _ _ _ _ _ _ us hl => match us, hl with | [_, _, _, _], _ => rfl⟩
def sp_slot_address (K : PySem.W.Frag) : Sp := fun vs H Q _ => ∃ (H0 : Hp) (ad : Ro → Addr) (m : MS) (s j : Nat), vs = [.ref (ad .bench), .int s, .int j] ∧ BA K H0 ad m H ∧ s < 60 ∧ ∀ n, Q (.int n) H
theorem sc_slot_address : FnScope ["bench", "slot", "lane"] ["bench", "slot", "lane"] (defScope s_slot_address) := ⟨rfl, rfl, rfl, by decide +kernel, rfl, by decide +kernel, by decide +kernel⟩
theorem ok_slot_address {P : Program} {w : World} {K : PySem.W.Frag} {mg : Str → Option Value} {base : Heap} (T : Txt w K mg) : FnOk P w K mg base CX0 1 (ad_slot_address K) (fdOf K (ad_slot_address K)) ["bench", "slot", "lane"] (sp_slot_address K) := by
  refine T.f_slot_address.ok sc_slot_address (fun vs H Q E h => ?_) (fun cdv A outer s H vs Q E hr h => ?_)
  · obtain ⟨_, _, _, _, _, rfl, _⟩ := h
    rfl
  · have hu := hu_of hr
    have nd := sc_slot_address.nd
    refine ⟨_, PSs.nox ((pss_one (ps_ret (pe_op op_add (pe_op op_add (pe_callB call_len_seq rfl T.b_len PySem.boot_len (pa_cons (pe_fld (pv 0) rfl) pa_nil)) (pe_op op_mul (pe_op op_mul (pv 1) pe_int) (pe_fld (pv 0) rfl))) (pv 2))))), ?_⟩
    obtain ⟨H0, ad, m, s, j, rfl, B, hs, kQ⟩ := h
    have hC := B.lst (r := .cells) rfl (xs := _) fun _ => rfl
    refine ⟨_, rfl, B.fB T (fun _ => rfl) T.n_Bench_cells ⟨_, _, rfl, .inl (SqL.of hC), _, rfl, _, _, rfl, rfl, cm (by omega), _, rfl, B.fB T (fun _ => rfl) T.n_Bench_lanes ⟨_, _, rfl, rfl, cm (by omega), _, _, rfl, rfl, _, rfl, _, _, rfl, rfl, kQ _⟩⟩⟩
theorem cal_slot_address {P : Program} {w : World} {K : PySem.W.Frag} {mg : Str → Option Value} {base : Heap} (T : Txt w K mg) : Cal P w K mg base 1 "slot_address" ["bench", "slot", "lane"] (sp_slot_address K) := ⟨_, _, ok_slot_address T, T.g_slot_address, T.f_slot_address.kp, T.f_slot_address.bindsN (ps := ["bench", "slot", "lane"]) fun _ _ _ _ _ _ us hl => match us, hl with | [_, _, _], _ => rfl⟩
def sp_read_slot (K : PySem.W.Frag) : Sp := fun vs H Q _ => ∃ (H0 : Hp) (ad : Ro → Addr) (m : MS) (s j : Nat), vs = [.ref (ad .bench), .int s, .int j] ∧ BA K H0 ad m H ∧ s < 60 ∧ j < 4 * m.lanes ∧ m.tn < 10000000 ∧
  ∀ H', BA K H0 ad { m with tn := m.tn + 1 } H' → Q (.int (m.sl s j)) H'
theorem sc_read_slot : FnScope ["bench", "slot", "lane"] ["bench", "slot", "lane"] (defScope s_read_slot) := ⟨rfl, rfl, rfl, by decide +kernel, rfl, by decide +kernel, by decide +kernel⟩
theorem ok_read_slot {P : Program} {w : World} {K : PySem.W.Frag} {mg : Str → Option Value} {base : Heap} (T : Txt w K mg) : FnOk P w K mg base CX0 2 (ad_read_slot K) (fdOf K (ad_read_slot K)) ["bench", "slot", "lane"] (sp_read_slot K) := by
  have C_slot_address := cal_slot_address (P := P) (base := base) T
  refine T.f_read_slot.ok sc_read_slot (fun vs H Q E h => ?_) (fun cdv A outer s H vs Q E hr h => ?_)
  · obtain ⟨_, _, _, _, _, rfl, _⟩ := h
    rfl
  · have hu := hu_of hr
    have nd := sc_read_slot.nd
    refine ⟨_, PSs.nox ((pss_cons (ps_expr (pe_bm PySem.F.plainAttrs_list PySem.F.slot_list_append PySem.F.type_list_append mt_append (pe_fld (pv 0) rfl) (pa_cons (pe_tup (pa_cons (pe_fld (pv 0) rfl) (pa_cons pe_str (pa_cons (pe_cl C_slot_address (hr.mono (by decide)) (pa_cons (pv 0) (pa_cons (pv 1) (pa_cons (pv 2) pa_nil)))) pa_nil)))) pa_nil)))
      (pss_one (ps_ret (pe_ix ix_list (pe_ix ix_list (pe_fld (pv 0) rfl) (pv 1) (fun _ _ => rfl)) (pv 2) (fun _ _ => rfl)))))), ?_⟩
    obtain ⟨H0, ad, m, s, j, rfl, B, hs, hj, ht, kQ⟩ := h
    obtain ⟨g, hg, hB⟩ := B.at1 (r := .bench) rfl
    refine ⟨_, rfl, B.fB T (fun _ => rfl) T.n_Bench_touches ⟨B.touchTy, ?_⟩⟩
    refine ⟨_, rfl, _, _, _, _, _, rfl, hB, T.cl_Bench, T.n_Bench_place, rfl, _, rfl, _, rfl, _, rfl, H0, ad, m, s, j, rfl, B, hs, fun n => ?_⟩
    refine ⟨by show 3 ≤ sizeLine; decide, fun p hp => ?_⟩
    have B2 := B.sm (same_new (o := .tup [V.int g.place, V.str "read", V.int n]) hp)
    obtain ⟨ts, h1, h2, h3⟩ := B2.w_touch ht
    refine ⟨_, ts, _, rfl, rfl, h1, h2, ?_⟩
    have B3 := h3 (.ref p)
    have hL := B3.lst (r := .slotsL) rfl (xs := (List.range 60).map fun i => .ref (ad (.slot i))) fun _ => rfl
    have hS := B3.lst (r := .slot s) (decide_eq_true hs) (xs := _) fun _ => rfl
    exact ⟨_, rfl, B3.fB T (fun _ => rfl) T.n_Bench_slots ⟨_, rfl, _, _, _, _, rfl, rfl, SqL.of hL, atI_of rfl (rm_get hs), _, rfl, _, _, _, _, rfl, rfl, SqL.of hS, atI_of rfl (rm_get hj), kQ _ B3⟩⟩
theorem cal_read_slot {P : Program} {w : World} {K : PySem.W.Frag} {mg : Str → Option Value} {base : Heap} (T : Txt w K mg) : Cal P w K mg base 2 "read_slot" ["bench", "slot", "lane"] (sp_read_slot K) := ⟨_, _, ok_read_slot T, T.g_read_slot, T.f_read_slot.kp, T.f_read_slot.bindsN (ps := ["bench", "slot", "lane"]) fun _ _ _ _ _ _ us hl => match us, hl with | [_, _, _], _ => rfl⟩
def sp_write_slot (K : PySem.W.Frag) : Sp := fun vs H Q _ => ∃ (H0 : Hp) (ad : Ro → Addr) (m : MS) (s j : Nat) (v : Int), vs = [.ref (ad .bench), .int s, .int j, .int v] ∧ BA K H0 ad m H ∧ s < 60 ∧ j < 4 * m.lanes ∧ m.tn < 10000000 ∧ KR v ∧
  ∀ H', BA K H0 ad { m with tn := m.tn + 1, sl := upd2 m.sl s j v } H' → Q .non H'
theorem sc_write_slot : FnScope ["bench", "slot", "lane", "number"] ["bench", "slot", "lane", "number"] (defScope s_write_slot) := ⟨rfl, rfl, rfl, by decide +kernel, rfl, by decide +kernel, by decide +kernel⟩
theorem ok_write_slot {P : Program} {w : World} {K : PySem.W.Frag} {mg : Str → Option Value} {base : Heap} (T : Txt w K mg) : FnOk P w K mg base CX0 2 (ad_write_slot K) (fdOf K (ad_write_slot K)) ["bench", "slot", "lane", "number"] (sp_write_slot K) := by
  have C_slot_address := cal_slot_address (P := P) (base := base) T
  refine T.f_write_slot.ok sc_write_slot (fun vs H Q E h => ?_) (fun cdv A outer s H vs Q E hr h => ?_)
  · obtain ⟨_, _, _, _, _, _, rfl, _⟩ := h
    rfl
  · have hu := hu_of hr
    have nd := sc_write_slot.nd
    refine ⟨_, PSs.nox ((pss_cons (ps_expr (pe_bm PySem.F.plainAttrs_list PySem.F.slot_list_append PySem.F.type_list_append mt_append (pe_fld (pv 0) rfl) (pa_cons (pe_tup (pa_cons (pe_fld (pv 0) rfl) (pa_cons pe_str (pa_cons (pe_cl C_slot_address (hr.mono (by decide)) (pa_cons (pv 0) (pa_cons (pv 1) (pa_cons (pv 2) pa_nil)))) pa_nil)))) pa_nil)))
      (pss_one (ps_asg (pv 3) (pg_sub (pe_ix ix_list (pe_fld (pv 0) rfl) (pv 1) (fun _ _ => rfl)) (pv 2) set_list))))), ?_⟩
    obtain ⟨H0, ad, m, s, j, v, rfl, B, hs, hj, ht, hv, kQ⟩ := h
    obtain ⟨g, hg, hB⟩ := B.at1 (r := .bench) rfl
    refine ⟨_, rfl, B.fB T (fun _ => rfl) T.n_Bench_touches ⟨B.touchTy, ?_⟩⟩
    refine ⟨_, rfl, _, _, _, _, _, rfl, hB, T.cl_Bench, T.n_Bench_place, rfl, _, rfl, _, rfl, _, rfl, H0, ad, m, s, j, rfl, B, hs, fun n => ?_⟩
    refine ⟨by show 3 ≤ sizeLine; decide, fun p hp => ?_⟩
    have B2 := B.sm (same_new (o := .tup [V.int g.place, V.str "write", V.int n]) hp)
    obtain ⟨ts, h1, h2, h3⟩ := B2.w_touch ht
    refine ⟨_, ts, _, rfl, rfl, h1, h2, ?_⟩
    have B3 := h3 (.ref p)
    have hL := B3.lst (r := .slotsL) rfl (xs := (List.range 60).map fun i => .ref (ad (.slot i))) fun _ => rfl
    have hS := B3.lst (r := .slot s) (decide_eq_true hs) (xs := _) fun _ => rfl
    exact ⟨_, rfl, _, rfl, B3.fB T (fun _ => rfl) T.n_Bench_slots ⟨_, rfl, _, _, _, _, rfl, rfl, SqL.of hL, atI_of rfl (rm_get hs), _, rfl, _, _, _, j, rfl, rfl, hS, ixN_of rfl (by rw [List.length_map, List.length_range]; exact hj), kQ _ (B3.w_slot hv hs hj)⟩⟩
theorem cal_write_slot {P : Program} {w : World} {K : PySem.W.Frag} {mg : Str → Option Value} {base : Heap} (T : Txt w K mg) : Cal P w K mg base 2 "write_slot" ["bench", "slot", "lane", "number"] (sp_write_slot K) := ⟨_, _, ok_write_slot T, T.g_write_slot, T.f_write_slot.kp, T.f_write_slot.bindsN (ps := ["bench", "slot", "lane", "number"]) fun _ _ _ _ _ _ us hl => match us, hl with | [_, _, _, _], _ => rfl⟩
end Rb
end

section
set_option Elab.async false
set_option linter.all false
set_option maxRecDepth 100000
set_option maxHeartbeats 4000000
namespace Rb
open PySem PyProof.Rows PySem.W
/-! ### the folds that may be joined in any order -/
/-- what a half-by-half operation is -/
structure Halves (f : Int → Int → Int) (b : Int → Int → Int) : Prop where
  h : ∀ x y, f x y = 2 * f (x / 2) (y / 2) + b (x % 2) (y % 2)
  b01 : ∀ x y, (x = 0 ∨ x = 1) → (y = 0 ∨ y = 1) → b x y = 0 ∨ b x y = 1
  bass : ∀ x y z, (x = 0 ∨ x = 1) → (y = 0 ∨ y = 1) → (z = 0 ∨ z = 1) → b (b x y) z = b x (b y z)
  base : ∀ x y, (x = 0 ∨ x = -1) → (y = 0 ∨ y = -1) → f x y = 0 ∨ f x y = -1
  bass0 : ∀ x y z, (x = 0 ∨ x = -1) → (y = 0 ∨ y = -1) → (z = 0 ∨ z = -1) → f (f x y) z = f x (f y z)
def In2 (k : Nat) (x : Int) : Prop := -((2 ^ k : Nat) : Int) ≤ x ∧ x < ((2 ^ k : Nat) : Int)
theorem in2_half {k : Nat} {x : Int} (h : In2 (k + 1) x) : In2 k (x / 2) := by
  unfold In2 at *
  have e : (2 : Nat) ^ (k + 1) = 2 * 2 ^ k := by rw [Nat.pow_succ, Nat.mul_comm]
  rw [e] at h
  generalize 2 ^ k = t at *
  omega
theorem in2_zero {x : Int} (h : In2 0 x) : x = 0 ∨ x = -1 := by
  unfold In2 at h
  have e : (2 : Nat) ^ 0 = 1 := rfl
  rw [e] at h
  omega
theorem in2_dbl {k : Nat} {x b : Int} (h : In2 k x) (hb : b = 0 ∨ b = 1) : In2 (k + 1) (2 * x + b) := by
  unfold In2 at *
  have e : (2 : Nat) ^ (k + 1) = 2 * 2 ^ k := by rw [Nat.pow_succ, Nat.mul_comm]
  rw [e]
  generalize 2 ^ k = t at *
  omega
theorem in2_mono {k : Nat} {x : Int} (h : In2 k x) : In2 (k + 1) x := by
  unfold In2 at *
  have e : (2 : Nat) ^ (k + 1) = 2 * 2 ^ k := by rw [Nat.pow_succ, Nat.mul_comm]
  rw [e]
  generalize 2 ^ k = t at *
  omega
theorem in2_le {k j : Nat} {x : Int} (h : In2 k x) (hj : k ≤ j) : In2 j x := by
  induction hj with
  | refl => exact h
  | step _ ih => exact in2_mono ih
theorem in2_ex (x : Int) : ∃ k, In2 k x := by
  refine ⟨x.natAbs, ?_⟩
  unfold In2
  have h : x.natAbs < 2 ^ x.natAbs := Nat.lt_two_pow_self
  generalize 2 ^ x.natAbs = t at *
  omega
theorem m01 (x : Int) : x % 2 = 0 ∨ x % 2 = 1 := by omega
theorem Halves.range {f b : Int → Int → Int} (F : Halves f b) : ∀ (k : Nat) (x y : Int), In2 k x → In2 k y → In2 k (f x y)
  | 0, x, y, hx, hy => by
    rcases F.base x y (in2_zero hx) (in2_zero hy) with e | e <;> rw [e] <;> unfold In2 <;> decide
  | k + 1, x, y, hx, hy => by
    rw [F.h x y]
    exact in2_dbl (F.range k _ _ (in2_half hx) (in2_half hy)) (F.b01 _ _ (m01 x) (m01 y))
theorem Halves.assoc {f b : Int → Int → Int} (F : Halves f b) : ∀ (k : Nat) (x y z : Int), In2 k x → In2 k y → In2 k z → f (f x y) z = f x (f y z)
  | 0, x, y, z, hx, hy, hz => F.bass0 x y z (in2_zero hx) (in2_zero hy) (in2_zero hz)
  | k + 1, x, y, z, hx, hy, hz => by
    have ih := F.assoc k _ _ _ (in2_half hx) (in2_half hy) (in2_half hz)
    have b1 := F.b01 _ _ (m01 x) (m01 y)
    have b2 := F.b01 _ _ (m01 y) (m01 z)
    have bb := F.bass _ _ _ (m01 x) (m01 y) (m01 z)
    have e1 : f x y / 2 = f (x / 2) (y / 2) ∧ f x y % 2 = b (x % 2) (y % 2) := by
      have := F.h x y
      omega
    have e2 : f y z / 2 = f (y / 2) (z / 2) ∧ f y z % 2 = b (y % 2) (z % 2) := by
      have := F.h y z
      omega
    rw [F.h (f x y) z, F.h x (f y z), e1.1, e1.2, e2.1, e2.2, ih, bb]
theorem Halves.ass {f b : Int → Int → Int} (F : Halves f b) (x y z : Int) : f (f x y) z = f x (f y z) := by
  obtain ⟨i, hi⟩ := in2_ex x
  obtain ⟨j, hj⟩ := in2_ex y
  obtain ⟨l, hl⟩ := in2_ex z
  exact F.assoc (i + j + l) x y z (in2_le hi (by omega)) (in2_le hj (by omega)) (in2_le hl (by omega))
def andB (x y : Int) : Int := if x = 1 ∧ y = 1 then 1 else 0
def orB (x y : Int) : Int := if x = 1 ∨ y = 1 then 1 else 0
def xorB (x y : Int) : Int := if x = y then 0 else 1
theorem and_halves : Halves Builtin.bitAnd andB where
  h := fun x y => kbt_halves x y
  b01 := fun x y hx hy => by unfold andB; split <;> simp
  bass := fun x y z hx hy hz => by rcases hx with rfl | rfl <;> rcases hy with rfl | rfl <;> rcases hz with rfl | rfl <;> decide
  base := fun x y hx hy => by rcases hx with rfl | rfl <;> rcases hy with rfl | rfl <;> decide
  bass0 := fun x y z hx hy hz => by rcases hx with rfl | rfl <;> rcases hy with rfl | rfl <;> rcases hz with rfl | rfl <;> decide
theorem or_halves : Halves Builtin.bitOr orB where
  h := fun x y => by
    rw [bitOr_and, bitOr_and, kbt_halves x y]
    unfold orB
    have hx := m01 x
    have hy := m01 y
    rcases hx with hx | hx <;> rcases hy with hy | hy <;> rw [hx, hy] <;> simp <;> omega
  b01 := fun x y hx hy => by unfold orB; split <;> simp
  bass := fun x y z hx hy hz => by rcases hx with rfl | rfl <;> rcases hy with rfl | rfl <;> rcases hz with rfl | rfl <;> decide
  base := fun x y hx hy => by rcases hx with rfl | rfl <;> rcases hy with rfl | rfl <;> decide
  bass0 := fun x y z hx hy hz => by rcases hx with rfl | rfl <;> rcases hy with rfl | rfl <;> rcases hz with rfl | rfl <;> decide
theorem xor_halves : Halves Builtin.bitXor xorB where
  h := fun x y => by
    rw [bitXor_and, bitXor_and, kbt_halves x y]
    unfold xorB
    have hx := m01 x
    have hy := m01 y
    rcases hx with hx | hx <;> rcases hy with hy | hy <;> rw [hx, hy] <;> simp <;> omega
  b01 := fun x y hx hy => by unfold xorB; split <;> simp
  bass := fun x y z hx hy hz => by rcases hx with rfl | rfl <;> rcases hy with rfl | rfl <;> rcases hz with rfl | rfl <;> decide
  base := fun x y hx hy => by rcases hx with rfl | rfl <;> rcases hy with rfl | rfl <;> decide
  bass0 := fun x y z hx hy hz => by rcases hx with rfl | rfl <;> rcases hy with rfl | rfl <;> rcases hz with rfl | rfl <;> decide
theorem bitXor_comm (x y : Int) : Builtin.bitXor x y = Builtin.bitXor y x := by
  rw [bitXor_and, bitXor_and, bitAnd_comm]
  omega
theorem in2_kr {x : Int} : In2 63 x ↔ KR x := by
  unfold In2 KR
  have e : ((2 ^ 63 : Nat) : Int) = 9223372036854775808 := by decide
  rw [e]
theorem and_kr {x y : Int} (hx : KR x) (hy : KR y) : KR (Builtin.bitAnd x y) := in2_kr.mp (and_halves.range 63 x y (in2_kr.mpr hx) (in2_kr.mpr hy))
theorem or_kr {x y : Int} (hx : KR x) (hy : KR y) : KR (Builtin.bitOr x y) := in2_kr.mp (or_halves.range 63 x y (in2_kr.mpr hx) (in2_kr.mpr hy))
theorem xor_kr {x y : Int} (hx : KR x) (hy : KR y) : KR (Builtin.bitXor x y) := in2_kr.mp (xor_halves.range 63 x y (in2_kr.mpr hx) (in2_kr.mpr hy))
/-! ### kept -/
theorem kept_ex (n : Int) : ∃ q, kept n = n + 18446744073709551616 * q := by
  refine ⟨-((n + 9223372036854775808) / 18446744073709551616), ?_⟩
  unfold kept
  omega
theorem kept_shift (n q : Int) : kept (n + 18446744073709551616 * q) = kept n := by
  unfold kept
  omega
theorem sum_ass (a b c : Int) : kept (kept (a + b) + c) = kept (a + kept (b + c)) := by
  unfold kept
  omega
theorem prod_ass (a b c : Int) : kept (kept (a * b) * c) = kept (a * kept (b * c)) := by
  obtain ⟨p, hp⟩ := kept_ex (a * b)
  obtain ⟨q, hq⟩ := kept_ex (b * c)
  rw [hp, hq, Int.add_mul, Int.mul_add, Int.mul_assoc 18446744073709551616, kept_shift]
  have e : a * (18446744073709551616 * q) = 18446744073709551616 * (a * q) := by
    rw [← Int.mul_assoc, Int.mul_comm a, Int.mul_assoc]
  rw [e, kept_shift, Int.mul_assoc]
/-! ### the seven free folds -/
def FreeF (s : Str) : Prop := s = "sum" ∨ s = "product" ∨ s = "least" ∨ s = "most" ∨ s = "both" ∨ s = "either" ∨ s = "odd"
theorem FreeF.f9 {s : Str} (h : FreeF s) : Fold9 s := by
  rcases h with h | h | h | h | h | h | h
  · exact .inl h
  · exact .inr (.inl h)
  · exact .inr (.inr (.inl h))
  · exact .inr (.inr (.inr (.inl h)))
  · exact .inr (.inr (.inr (.inr (.inl h))))
  · exact .inr (.inr (.inr (.inr (.inr (.inl h)))))
  · exact .inr (.inr (.inr (.inr (.inr (.inr (.inl h))))))
theorem Fold9.free {s : Str} (h : Fold9 s) (h1 : s ≠ "chain") (h2 : s ≠ "capped") : FreeF s := by
  rcases h with h | h | h | h | h | h | h | h | h
  · exact .inl h
  · exact .inr (.inl h)
  · exact .inr (.inr (.inl h))
  · exact .inr (.inr (.inr (.inl h)))
  · exact .inr (.inr (.inr (.inr (.inl h))))
  · exact .inr (.inr (.inr (.inr (.inr (.inl h)))))
  · exact .inr (.inr (.inr (.inr (.inr (.inr h)))))
  · exact (h1 h).elim
  · exact (h2 h).elim
theorem jn_sum (a b : Int) : jn "sum" a b = kept (a + b) := rfl
theorem jn_product (a b : Int) : jn "product" a b = kept (a * b) := rfl
theorem jn_least (a b : Int) : jn "least" a b = if b < a then b else a := rfl
theorem jn_most (a b : Int) : jn "most" a b = if b > a then b else a := rfl
theorem jn_both (a b : Int) : jn "both" a b = Builtin.bitAnd a b := rfl
theorem jn_either (a b : Int) : jn "either" a b = Builtin.bitOr a b := rfl
theorem jn_odd (a b : Int) : jn "odd" a b = Builtin.bitXor a b := rfl
theorem jn_chain (a b : Int) : jn "chain" a b = kept (31 * a + b) := rfl
theorem jn_capped (a b : Int) : jn "capped" a b = (if (if a + b < 1000000000 then a + b else 1000000000) > -1000000000 then (if a + b < 1000000000 then a + b else 1000000000) else -1000000000) := rfl
theorem jn_comm {s : Str} (h : FreeF s) (a b : Int) : jn s a b = jn s b a := by
  rcases h with rfl | rfl | rfl | rfl | rfl | rfl | rfl
  · rw [jn_sum, jn_sum, Int.add_comm]
  · rw [jn_product, jn_product, Int.mul_comm]
  · rw [jn_least, jn_least]
    split <;> split <;> omega
  · rw [jn_most, jn_most]
    split <;> split <;> omega
  · rw [jn_both, jn_both, bitAnd_comm]
  · rw [jn_either, jn_either, bitOr_comm]
  · rw [jn_odd, jn_odd, bitXor_comm]
theorem jn_assoc {s : Str} (h : FreeF s) (a b c : Int) : jn s (jn s a b) c = jn s a (jn s b c) := by
  rcases h with rfl | rfl | rfl | rfl | rfl | rfl | rfl
  · simp only [jn_sum]
    exact sum_ass a b c
  · simp only [jn_product]
    exact prod_ass a b c
  · simp only [jn_least]
    repeat' split
    all_goals omega
  · simp only [jn_most]
    repeat' split
    all_goals omega
  · simp only [jn_both]
    exact and_halves.ass a b c
  · simp only [jn_either]
    exact or_halves.ass a b c
  · simp only [jn_odd]
    exact xor_halves.ass a b c
theorem jn_kr {s : Str} (h : Fold9 s) {a b : Int} (ha : KR a) (hb : KR b) : KR (jn s a b) := by
  rcases h with rfl | rfl | rfl | rfl | rfl | rfl | rfl | rfl | rfl
  · exact kept_kr _
  · exact kept_kr _
  · rw [jn_least]
    split
    · exact hb
    · exact ha
  · rw [jn_most]
    split
    · exact hb
    · exact ha
  · exact and_kr ha hb
  · exact or_kr ha hb
  · exact xor_kr ha hb
  · exact kept_kr _
  · rw [jn_capped]
    unfold KR
    repeat' split
    all_goals omega
theorem sgn_kr {s : Str} {a b n : Int} (ha : KR a) (hb : KR b) (h : sgn s a b = some n) : KR n := by
  unfold sgn at h
  split at h
  · cases h; exact kept_kr _
  split at h
  · cases h; exact kept_kr _
  split at h
  · cases h; exact kept_kr _
  split at h
  · split at h
    · cases h
    · rename_i h0
      split at h
      · cases h; exact kept_kr _
      · cases h
        unfold KR at *
        by_cases hp : 0 < b
        · have h1 := Int.fmod_nonneg_of_pos a hp
          have h2 := Int.fmod_lt_of_pos a hp
          omega
        · have h3 : b < 0 := by omega
          have h4 : -b ≠ 0 := by omega
          have e : a.fmod b = -((-a).fmod (-b)) := by rw [Int.neg_fmod_neg]; omega
          have h1 := Int.fmod_nonneg_of_pos (-a) (show 0 < -b by omega)
          have h2 := Int.fmod_lt_of_pos (-a) (show 0 < -b by omega)
          omega
  split at h
  · cases h
    split
    · exact hb
    · exact ha
  split at h
  · cases h
    split
    · exact hb
    · exact ha
  split at h
  · cases h
    unfold KR
    split <;> omega
  split at h
  · cases h
    unfold KR
    split <;> omega
  split at h
  · cases h; exact and_kr ha hb
  split at h
  · cases h; exact or_kr ha hb
  · cases h; exact xor_kr ha hb
end Rb
end

section
set_option Elab.async false
set_option linter.all false
set_option maxRecDepth 100000
set_option maxHeartbeats 4000000
namespace Rb
open PySem PyProof.Rows
def fold1 (s : Str) : List Int → Int
  | [] => 0
  | x :: r => r.foldl (jn s) x
section
variable {s : Str}
theorem foldl_op (h : FreeF s) (a : Int) : ∀ (r : List Int) (x : Int), r.foldl (jn s) (jn s a x) = jn s a (r.foldl (jn s) x)
  | [], _ => rfl
  | y :: r, x => by
    rw [List.foldl_cons, List.foldl_cons, jn_assoc h, foldl_op h a r]
theorem fold1_cons (h : FreeF s) (x : Int) : ∀ {ys : List Int}, ys ≠ [] → fold1 s (x :: ys) = jn s x (fold1 s ys)
  | [], e => (e rfl).elim
  | y :: r, _ => by
    show (y :: r).foldl (jn s) x = _
    rw [List.foldl_cons]
    exact foldl_op h x r y
theorem fold1_app (h : FreeF s) : ∀ {xs ys : List Int}, xs ≠ [] → ys ≠ [] → fold1 s (xs ++ ys) = jn s (fold1 s xs) (fold1 s ys)
  | [], _, e, _ => (e rfl).elim
  | [x], ys, _, e => fold1_cons h x e
  | x :: y :: r, ys, _, e => by
    rw [List.cons_append, fold1_cons h x (by simp), fold1_app h (xs := y :: r) (by simp) e, fold1_cons h x (ys := y :: r) (by simp), jn_assoc h]
theorem fold1_erase (h : FreeF s) : ∀ (xs : List Int) (k : Nat) (x : Int), xs[k]? = some x → 1 < xs.length → fold1 s xs = jn s (fold1 s (xs.eraseIdx k)) x
  | [], _, _, e, _ => by simp at e
  | a :: r, 0, x, e, hl => by
    have ea : a = x := by simpa using e
    subst ea
    have hr : r ≠ [] := fun z => by rw [z] at hl; simp at hl
    rw [fold1_cons h a hr, jn_comm h]
    rfl
  | a :: r, k + 1, x, e, hl => by
    have e' : r[k]? = some x := by simpa using e
    have hr : r ≠ [] := fun z => by rw [z] at hl; simp at hl
    rw [List.eraseIdx_cons_succ]
    by_cases h1 : 1 < r.length
    · have ih := fold1_erase h r k x e' h1
      have hne : r.eraseIdx k ≠ [] := fun z => by
        have hk : k < r.length := (List.getElem?_eq_some_iff.mp e').1
        have := List.length_eraseIdx_of_lt hk
        rw [z] at this
        simp at this
        omega
      rw [fold1_cons h a hr, ih, fold1_cons h a hne, jn_assoc h]
    · match r, hr, h1, e' with
      | [b], _, _, e' =>
        have hk : k = 0 := by
          have := (List.getElem?_eq_some_iff.mp e').1
          simp at this
          omega
        subst hk
        have eb : b = x := by simpa using e'
        subst eb
        rfl
      | b :: c :: t, _, h1, _ => simp at h1
theorem fold1_set (h : FreeF s) (x : Int) : ∀ (xs : List Int) (k : Nat) (y : Int), xs[k]? = some y → fold1 s (xs.set k (jn s y x)) = jn s (fold1 s xs) x
  | [], _, _, e => by simp at e
  | a :: r, 0, y, e => by
    have ea : a = y := by simpa using e
    subst ea
    show fold1 s (jn s a x :: r) = _
    by_cases hr : r = []
    · subst hr
      rfl
    · rw [fold1_cons h _ hr, fold1_cons h _ hr, jn_assoc h, jn_comm h x, ← jn_assoc h]
  | a :: r, k + 1, y, e => by
    have e' : r[k]? = some y := by simpa using e
    have hr : r ≠ [] := fun z => by rw [z] at e'; simp at e'
    have hr2 : r.set k (jn s y x) ≠ [] := fun z => hr (List.eq_nil_of_length_eq_zero (by rw [← List.length_set (as := r) (i := k) (a := jn s y x), z]; rfl))
    show fold1 s (a :: r.set k (jn s y x)) = _
    rw [fold1_cons h _ hr2, fold1_set h x r k y e', fold1_cons h _ hr, jn_assoc h]
theorem fold1_kr (h : Fold9 s) : ∀ {xs : List Int}, (∀ x ∈ xs, KR x) → KR (fold1 s xs)
  | [], _ => (show KR 0 from ⟨by decide, by decide⟩)
  | x :: r, hk => by
    show KR (r.foldl (jn s) x)
    have go : ∀ (r : List Int) (x : Int), KR x → (∀ y ∈ r, KR y) → KR (r.foldl (jn s) x) := by
      intro r
      induction r with
      | nil => intro x hx _; exact hx
      | cons y r ih => intro x hx hr; exact ih _ (jn_kr h hx (hr y (by simp))) fun z hz => hr z (by simp [hz])
    exact go r x (hk x (by simp)) fun y hy => hk y (by simp [hy])
theorem foldl_fold1 (h : FreeF s) (c : Int) {xs : List Int} (hx : xs ≠ []) : xs.foldl (jn s) c = jn s c (fold1 s xs) := by
  match xs, hx with
  | x :: r, _ => exact foldl_op h c r x
end
/-! ### windows -/
def win (xs : List Int) (a c : Nat) : List Int := (xs.take c).drop a
theorem win_app (xs : List Int) {a b c : Nat} (h1 : a ≤ b) (h2 : b ≤ c) : win xs a c = win xs a b ++ win xs b c := by
  unfold win
  have e : xs.take c = xs.take b ++ (xs.take c).drop b := by
    have := (List.take_append_drop b (xs.take c)).symm
    rw [List.take_take, Nat.min_eq_left h2] at this
    exact this
  by_cases hb : b ≤ xs.length
  · conv => lhs; rw [e]
    rw [List.drop_append, List.length_take, Nat.min_eq_left hb]
    have e2 : a - b = 0 := by omega
    rw [e2, List.drop_zero]
  · have e3 : xs.take c = xs := List.take_of_length_le (by omega)
    have e4 : xs.take b = xs := List.take_of_length_le (by omega)
    rw [e3, e4, List.drop_eq_nil_of_le (as := xs) (i := b) (by omega), List.append_nil]
theorem win_ne (xs : List Int) {a c : Nat} (h1 : a < c) (h2 : a < xs.length) : win xs a c ≠ [] := by
  unfold win
  intro z
  have := congrArg List.length z
  rw [List.length_drop, List.length_take] at this
  simp at this
  omega
/-- the running numbers with windows of so many -/
def wins (s : Str) (xs : List Int) (ahead k : Nat) : Int := fold1 s (win xs (k + 1 - ahead) (k + 1))
theorem wins_one (s : Str) (xs : List Int) (k : Nat) (hk : k < xs.length) : wins s xs 1 k = xs[k] := by
  unfold wins win
  have e : k + 1 - 1 = k := by omega
  rw [e, List.take_add_one, List.drop_append, List.length_take, Nat.min_eq_left (by omega), Nat.sub_self, List.getElem?_eq_getElem hk]
  rw [List.drop_eq_nil_of_le (by rw [List.length_take]; omega)]
  rfl
theorem wins_low (s : Str) (xs : List Int) {a k : Nat} (h : k < a) : wins s xs (a * 2) k = wins s xs a k := by
  unfold wins
  have e1 : k + 1 - a * 2 = 0 := by omega
  have e2 : k + 1 - a = 0 := by omega
  rw [e1, e2]
theorem wins_high {s : Str} (h : FreeF s) (xs : List Int) {a k : Nat} (h0 : 0 < a) (hk : a ≤ k) (hl : k < xs.length) : wins s xs (a * 2) k = jn s (wins s xs a (k - a)) (wins s xs a k) := by
  unfold wins
  have e1 : k - a + 1 = k + 1 - a := by omega
  have e2 : k - a + 1 - a = k + 1 - a * 2 := by omega
  rw [e2, e1, win_app xs (a := k + 1 - a * 2) (b := k + 1 - a) (c := k + 1) (by omega) (by omega)]
  exact fold1_app h (win_ne xs (by omega) (by omega)) (win_ne xs (by omega) (by omega))
def scan (s : Str) (xs : List Int) : List Int := (List.range xs.length).map fun k => fold1 s (xs.take (k + 1))
theorem wins_end (s : Str) (xs : List Int) {a k : Nat} (h : xs.length ≤ a) (hk : k < xs.length) : wins s xs a k = fold1 s (xs.take (k + 1)) := by
  unfold wins win
  have e : k + 1 - a = 0 := by omega
  rw [e, List.drop_zero]
theorem win_kr {xs : List Int} (h : ∀ x ∈ xs, KR x) (a c : Nat) : ∀ x ∈ win xs a c, KR x := fun x hx => h x (List.mem_of_mem_take (List.mem_of_mem_drop hx))
/-! ### running numbers, one behind another -/
def runsOf (s : Str) : Option Int → List Int → List Int
  | _, [] => []
  | none, x :: r => x :: runsOf s (some x) r
  | some c, x :: r => jn s c x :: runsOf s (some (jn s c x)) r
theorem runsOf_len (s : Str) : ∀ (xs : List Int) (c : Option Int), (runsOf s c xs).length = xs.length
  | [], c => by cases c <;> rfl
  | x :: r, none => congrArg Nat.succ (runsOf_len s r _)
  | x :: r, some c => congrArg Nat.succ (runsOf_len s r _)
theorem scan_cons {s : Str} (h : FreeF s) (x : Int) (r : List Int) : scan s (x :: r) = x :: (scan s r).map (jn s x) := by
  unfold scan
  rw [List.length_cons, List.range_succ_eq_map, List.map_cons, List.map_map, List.map_map]
  congr 1
  refine List.map_congr_left fun k hk => ?_
  have hk' : k < r.length := List.mem_range.mp hk
  show fold1 s ((x :: r).take (k + 1 + 1)) = jn s x (fold1 s (r.take (k + 1)))
  rw [List.take_succ_cons]
  exact fold1_cons h x fun z => by
    have := congrArg List.length z
    rw [List.length_take, List.length_nil] at this
    omega
theorem scan_some {s : Str} (h : FreeF s) : ∀ (xs : List Int) (c : Int), (scan s xs).map (jn s c) = runsOf s (some c) xs
  | [], _ => rfl
  | x :: r, c => by
    rw [scan_cons h, List.map_cons, List.map_map]
    show _ = jn s c x :: runsOf s (some (jn s c x)) r
    rw [← scan_some h r (jn s c x)]
    congr 1
    refine List.map_congr_left fun y _ => ?_
    exact (jn_assoc h c x y).symm
theorem scan_none {s : Str} (h : FreeF s) : ∀ (xs : List Int), scan s xs = runsOf s none xs
  | [] => rfl
  | x :: r => by
    rw [scan_cons h]
    show _ = x :: runsOf s (some x) r
    rw [scan_some h]
theorem runsOf_kr {s : Str} (h : Fold9 s) : ∀ (xs : List Int) (c : Option Int), (∀ x ∈ xs, KR x) → (∀ n, c = some n → KR n) → ∀ y ∈ runsOf s c xs, KR y
  | [], c, _, _, y, hy => by cases c <;> cases hy
  | x :: r, none, hx, hc, y, hy => by
    have h1 := hx x (by simp)
    rcases List.mem_cons.mp hy with e | e
    · rw [e]; exact h1
    · exact runsOf_kr h r (some x) (fun z hz => hx z (by simp [hz])) (fun n e => by cases e; exact h1) y e
  | x :: r, some c, hx, hc, y, hy => by
    have h1 := jn_kr h (hc c rfl) (hx x (by simp))
    rcases List.mem_cons.mp hy with e | e
    · rw [e]; exact h1
    · exact runsOf_kr h r (some (jn s c x)) (fun z hz => hx z (by simp [hz])) (fun n e => by cases e; exact h1) y e
end Rb
end

section
set_option Elab.async false
set_option linter.all false
set_option maxRecDepth 100000
set_option maxHeartbeats 4000000
namespace Rb
open PySem PySem.Spec PyProof.Rows L2

theorem erase_map {α β : Type} (f : α → β) : ∀ (l : List α) (k : Nat), (l.map f).eraseIdx k = (l.eraseIdx k).map f
  | [], k => by cases k <;> rfl
  | _ :: _, 0 => rfl
  | a :: r, k + 1 => congrArg (f a :: ·) (erase_map f r k)
theorem seqIx {i : Int} {j n : Nat} (e : i = (j : Int)) (h : j < n) : seqIndex? i n = some j := by
  subst e
  unfold seqIndex?
  simp
  omega
section
variable {w : World} {K : PySem.W.Frag} {mg : Str → Option Value} {H0 H1 H H' : Hp} {ad : Ro → Addr} {m m' : MS}
/-- an address that is none of the machine's -/
def Off (ad : Ro → Addr) (on : Bool) (l : Addr) : Prop := ∀ r, rok on r = true → l ≠ ad r
theorem BA.off_new (B : BA K H0 ad m H) {l : Addr} (h : H l = none) : Off ad m.on l := fun r hr z => by
  obtain ⟨wf, g, hg, A⟩ := B
  rw [z, A.at_ r hr] at h
  cases h
theorem BA.wr (B : BA K H0 ad m H) {l : Addr} {o : HO} (hl : Off ad m.on l) (h0 : H0 l = none) : BA K H0 ad m (upd H l o) := by
  obtain ⟨wf, g, hg, A⟩ := B
  exact ⟨wf, g, hg, A.inj, A.off, fun r hr => by rw [upd_ne (fun z => hl r hr z.symm)]; exact A.at_ r hr, same_upd A.same h0⟩
/-- what stands off the machine stays, behind a step that was taken over the heap without it -/
theorem BA.stay (B' : BA K (offH ad m.on H) ad m' H') {l : Addr} {o : HO} (hl : Off ad m.on l) (h : H l = some o) : H' l = some o := B'.same l o (by rw [offH_out hl]; exact h)
end
def sp_cut_join (K : PySem.W.Frag) : Sp := fun vs H Q _ => ∃ (H0 : Hp) (ad : Ro → Addr) (m : MS) (a : Addr) (s : Str) (xs : List Int), vs = [.str s, .ref a, .ref (ad .picksO)] ∧ BA K H0 ad m H ∧ SqL K H a (xs.map V.int) ∧ FreeF s ∧ xs ≠ [] ∧ xs.length ≤ 1000 ∧ (∀ x ∈ xs, KR x) ∧
  ∀ H', BA K H0 ad m H' → Q (.int (fold1 s xs)) H'
theorem sc_cut_join : FnScope ["fold", "numbers", "feed", "left", "one", "at"] ["fold", "numbers", "feed"] (defScope s_cut_join) := ⟨rfl, rfl, rfl, by decide +kernel, rfl, by decide +kernel, by decide +kernel⟩
theorem ok_cut_join {P : Program} {w : World} {K : PySem.W.Frag} {mg : Str → Option Value} {base : Heap} (T : Txt w K mg) : FnOk P w K mg base CX0 5 (ad_cut_join K) (fdOf K (ad_cut_join K)) ["fold", "numbers", "feed"] (sp_cut_join K) := by
  have C_joined := cal_joined (P := P) (base := base) T
  have C_Feed_taken := cal_Feed_taken (P := P) (base := base) T
  refine T.f_cut_join.ok sc_cut_join (fun vs H Q E h => ?_) (fun cdv A outer s H vs Q E hr h => ?_)
  · obtain ⟨_, _, _, _, _, _, rfl, _⟩ := h
    rfl
  · have hu := hu_of hr
    have nd := sc_cut_join.nd
    refine ⟨_, PSs.nox ((pss_cons (ps_set (i := 3) nd rfl (Or.inl rfl) (pe_callTy call_list_of rfl T.b_list (by decide +kernel) (pa_cons (pv 1) pa_nil)))
      (pss_cons (ps_while PassesOwn.never (pt_cmpR op_gt (pe_callB call_len_seq rfl T.b_len PySem.boot_len (pa_cons (pv 3) pa_nil)) pe_int (nomark _))
      (pss_cons (ps_set (i := 4) nd rfl (Or.inl rfl) (pe_bm PySem.F.plainAttrs_list PySem.F.slot_list_pop PySem.F.type_list_pop mt_popAt (pv 3) (pa_cons (pe_op op_mod (pe_clm0 (pv 2) C_Feed_taken (hr.mono (by decide))) (pe_callB call_len_seq rfl T.b_len PySem.boot_len (pa_cons (pv 3) pa_nil))) pa_nil)))
      (pss_cons (ps_set (i := 5) nd rfl (Or.inl rfl) (pe_op op_mod (pe_clm0 (pv 2) C_Feed_taken (hr.mono (by decide))) (pe_callB call_len_seq rfl T.b_len PySem.boot_len (pa_cons (pv 3) pa_nil))))
      (pss_one (ps_asg (pe_cl C_joined (hr.mono (by decide)) (pa_cons (pv 0) (pa_cons (pe_ix ix_list (pv 3) (pv 5) (fun _ _ => rfl)) (pa_cons (pv 4) pa_nil)))) (pg_sub (pv 3) (pv 5) set_list))))))
      (pss_one (ps_ret (pe_ix ix_list (pv 3) pe_int (fun _ _ => rfl))))))), ?_⟩
    obtain ⟨H0, ad, m, a, s, xs, rfl, B, hS, hF, hne, hlen, hk, kQ⟩ := h
    refine ⟨_, rfl, a, _, rfl, .inl hS, fun l hl => ?_⟩
    have hoff := B.off_new hl
    have hl0 : H0 l = none := B.same.free hl
    refine while_by (fun σ H' => ∃ (ys : List Int) (v4 v5 : Option V), σ = [some (.str s), some (.ref a), some (.ref (ad .picksO)), some (.ref l), v4, v5] ∧ BA K H0 ad m H' ∧ H' l = some (.lst (ys.map V.int)) ∧ ys ≠ [] ∧ ys.length ≤ 1000 ∧ (∀ x ∈ ys, KR x) ∧ fold1 s ys = fold1 s xs)
      (fun σ H' => match H' l with | some (.lst ys) => ys.length | _ => 0) ⟨xs, none, none, rfl, B.sm (same_new hl), upd_same, hne, hlen, hk, rfl⟩ ?_ ?_
    · rintro σ H' ⟨ys, v4, v5, rfl, B1, h1, hn1, hl1, hk1, hf1⟩
      refine ⟨_, rfl, l, _, rfl, .inl (SqL.of h1), _, _, rfl, rfl, _, rfl, iteD (fun c => ?_) (fun c => ?_)⟩
      · rw [List.length_map] at c
        obtain ⟨dx, fs, p1, p2, p3⟩ := B1.rebase.picks
        refine ⟨_, rfl, .inl ⟨rfl, _, SqL.of h1⟩, _, rfl, _, dx, fs, rfl, p1, p2, p3 _ _ _ fun n H2 B2 => ?_⟩
        have h2 := B2.stay hoff h1
        have B2' := B2.weaken B1.back
        refine ⟨_, rfl, l, _, rfl, .inl (SqL.of h2), _, _, rfl, rfl, (by rw [List.length_map]; show (0 : Int) < (ys.length : Int); omega), ?_⟩
        rw [List.length_map]
        obtain ⟨k, hk2, ek⟩ : ∃ k : Nat, k < ys.length ∧ n % (ys.length : Int) = (k : Int) := ⟨(n % (ys.length : Int)).toNat, by
          have q1 := Int.emod_nonneg n (show (ys.length : Int) ≠ 0 by omega)
          have q2 := Int.emod_lt_of_pos n (show (0 : Int) < (ys.length : Int) by omega)
          omega, by
          have q1 := Int.emod_nonneg n (show (ys.length : Int) ≠ 0 by omega)
          omega⟩
        have ey : ys[k]? = some ys[k] := List.getElem?_eq_getElem hk2
        refine ⟨l, _, _, k, V.int ys[k], rfl, rfl, h2, ?_, ?_, seqIx ek (by rw [List.length_map]; exact hk2), by rw [List.getElem?_map, ey]; rfl, ?_⟩
        · show -(2 ^ 63) ≤ n % (ys.length : Int)
          rw [ek]
          exact Int.le_trans (by decide) (Int.natCast_nonneg k)
        · show n % (ys.length : Int) < 2 ^ 63
          rw [ek]
          exact Int.lt_of_lt_of_le (show (k : Int) < 1000 by omega) (by decide)
        have e3 : (ys.map V.int).eraseIdx k = (ys.eraseIdx k).map V.int := erase_map _ _ _
        rw [e3]
        have B3 : BA K H0 ad m (upd H2 l (.lst ((ys.eraseIdx k).map V.int))) := B2'.wr hoff hl0
        generalize eH : upd H2 l (.lst ((ys.eraseIdx k).map V.int)) = H3 at B3 ⊢
        have h3 : H3 l = some (.lst ((ys.eraseIdx k).map V.int)) := by rw [← eH, upd_same]
        have hl3 : (ys.eraseIdx k).length = ys.length - 1 := List.length_eraseIdx_of_lt hk2
        obtain ⟨dx, fs, p1, p2, p3⟩ := B3.rebase.picks
        refine ⟨_, rfl, _, dx, fs, rfl, p1, p2, p3 _ _ _ fun n4 H4 B4 => ?_⟩
        have h4 := B4.stay hoff h3
        have B4' := B4.weaken B3.back
        refine ⟨_, rfl, l, _, rfl, .inl (SqL.of h4), _, _, rfl, rfl, (by rw [List.length_map, hl3]; show (0 : Int) < ((ys.length - 1 : Nat) : Int); omega), ?_⟩
        rw [List.length_map, hl3]
        obtain ⟨j, hj2, ej⟩ : ∃ j : Nat, j < (ys.eraseIdx k).length ∧ n4 % ((ys.length - 1 : Nat) : Int) = (j : Int) := ⟨(n4 % ((ys.length - 1 : Nat) : Int)).toNat, by
          have q1 := Int.emod_nonneg n4 (show ((ys.length - 1 : Nat) : Int) ≠ 0 by omega)
          have q2 := Int.emod_lt_of_pos n4 (show (0 : Int) < ((ys.length - 1 : Nat) : Int) by omega)
          omega, by
          have q1 := Int.emod_nonneg n4 (show ((ys.length - 1 : Nat) : Int) ≠ 0 by omega)
          omega⟩
        have ez : (ys.eraseIdx k)[j]? = some (ys.eraseIdx k)[j] := List.getElem?_eq_getElem hj2
        have hkz : KR (ys.eraseIdx k)[j] := hk1 _ (List.mem_of_mem_eraseIdx (List.getElem_mem hj2))
        have hky : KR ys[k] := hk1 _ (List.getElem_mem hk2)
        refine ⟨_, rfl, _, rfl, _, rfl, l, _, _, _, rfl, rfl, SqL.of h4, atI_of ej (x := V.int (ys.eraseIdx k)[j]) (by rw [List.getElem?_map, ez]; rfl), _, rfl, s, _, _, rfl, hF.f9, hkz, hky, ?_⟩
        refine ⟨_, rfl, _, rfl, l, _, _, j, rfl, rfl, h4, ixN_of ej (by rw [List.length_map]; exact hj2), ?_⟩
        have e5 : ((ys.eraseIdx k).map V.int).set j (.int (jn s (ys.eraseIdx k)[j] ys[k])) = ((ys.eraseIdx k).set j (jn s (ys.eraseIdx k)[j] ys[k])).map V.int := by rw [List.map_set]
        rw [e5]
        refine ⟨⟨(ys.eraseIdx k).set j (jn s (ys.eraseIdx k)[j] ys[k]), _, _, rfl, B4'.wr hoff hl0, upd_same, fun z => ?_, by rw [List.length_set, hl3]; omega, fun x hx => ?_, ?_⟩, ?_⟩
        · have := congrArg List.length z
          rw [List.length_set, hl3, List.length_nil] at this
          omega
        · rcases List.mem_or_eq_of_mem_set hx with h | h
          · exact hk1 x (List.mem_of_mem_eraseIdx h)
          · rw [h]
            exact jn_kr hF.f9 hkz hky
        · rw [fold1_set hF ys[k] (ys.eraseIdx k) j _ ez, ← fold1_erase hF ys k ys[k] ey (by omega), hf1]
        · show (match upd H4 l _ l with | some (.lst ys) => ys.length | _ => 0) < (match H' l with | some (.lst ys) => ys.length | _ => 0)
          rw [upd_same, h1]
          show (List.map V.int _).length < (List.map V.int _).length
          rw [List.length_map, List.length_set, hl3, List.length_map]
          omega
      · rw [List.length_map] at c
        have h1len : ys.length = 1 := by
          have : ys.length ≠ 0 := fun z => hn1 (List.eq_nil_of_length_eq_zero z)
          omega
        match ys, h1len with
        | [y], _ =>
          refine ⟨_, rfl, l, _, _, _, rfl, rfl, SqL.of h1, atI_of (j := 0) (x := V.int y) rfl rfl, ?_⟩
          have : y = fold1 s xs := hf1
          rw [this]
          exact kQ _ B1
    · rintro σ H' Q1 Q2 hq ⟨v, e1, p, ys, e2, h1, i, j, e3, e4, k, e5, q⟩
      exact ⟨v, e1, p, ys, e2, h1, i, j, e3, e4, k, e5, hq _ _ q⟩
theorem cal_cut_join {P : Program} {w : World} {K : PySem.W.Frag} {mg : Str → Option Value} {base : Heap} (T : Txt w K mg) : Cal P w K mg base 5 "cut_join" ["fold", "numbers", "feed"] (sp_cut_join K) := ⟨_, _, ok_cut_join T, T.g_cut_join, T.f_cut_join.kp, T.f_cut_join.bindsN (ps := ["fold", "numbers", "feed"]) fun _ _ _ _ _ _ us hl => match us, hl with | [_, _, _], _ => rfl⟩
end Rb
end

section
set_option Elab.async false
set_option linter.all false
set_option maxRecDepth 100000
set_option maxHeartbeats 4000000
namespace Rb
open PySem PySem.Spec PyProof.Rows L2

def stepR (s : Str) (c : Option Int) (x : Int) : Int := match c with
  | none => x
  | some c => jn s c x
def endR (s : Str) (c : Option Int) (xs : List Int) : Option Int := xs.foldl (fun c x => some (stepR s c x)) c
theorem runsOf_snoc (s : Str) (x : Int) : ∀ (xs : List Int) (c : Option Int), runsOf s c (xs ++ [x]) = runsOf s c xs ++ [stepR s (endR s c xs) x]
  | [], none => rfl
  | [], some c => rfl
  | y :: r, none => congrArg (y :: ·) (runsOf_snoc s x r (some y))
  | y :: r, some c => congrArg (jn s c y :: ·) (runsOf_snoc s x r (some (jn s c y)))
theorem endR_snoc (s : Str) (x : Int) (xs : List Int) (c : Option Int) : endR s c (xs ++ [x]) = some (stepR s (endR s c xs) x) := by
  unfold endR
  rw [List.foldl_append]
  rfl
theorem stepR_kr {s : Str} (h : Fold9 s) {c : Option Int} {x : Int} (hc : ∀ n, c = some n → KR n) (hx : KR x) : KR (stepR s c x) := by
  cases c with
  | none => exact hx
  | some c => exact jn_kr h (hc c rfl) hx
theorem endR_kr {s : Str} (h : Fold9 s) : ∀ (xs : List Int) (c : Option Int), (∀ x ∈ xs, KR x) → (∀ n, c = some n → KR n) → ∀ n, endR s c xs = some n → KR n
  | [], c, _, hc, n, e => hc n e
  | x :: r, c, hx, hc, n, e => endR_kr h r (some (stepR s c x)) (fun z hz => hx z (by simp [hz])) (fun k ek => by cases ek; exact stepR_kr h hc (hx x (by simp))) n e
def sp_doubled (K : PySem.W.Frag) : Sp := fun vs H Q _ => ∃ (a : Addr) (s : Str) (xs : List Int), vs = [.str s, .ref a] ∧ SqL K H a (xs.map V.int) ∧ FreeF s ∧ xs.length ≤ 1000 ∧ (∀ x ∈ xs, KR x) ∧
  ∀ p H', H p = none → Same H H' → H' p = some (.lst ((scan s xs).map V.int)) → Q (.ref p) H'
theorem sc_doubled : FnScope ["fold", "numbers", "runs", "ahead", "wider", "k"] ["fold", "numbers"] (defScope s_doubled) := ⟨rfl, rfl, rfl, by decide +kernel, rfl, by decide +kernel, by decide +kernel⟩
theorem ok_doubled {P : Program} {w : World} {K : PySem.W.Frag} {mg : Str → Option Value} {base : Heap} (T : Txt w K mg) : FnOk P w K mg base CX0 5 (ad_doubled K) (fdOf K (ad_doubled K)) ["fold", "numbers"] (sp_doubled K) := by
  have C_joined := cal_joined (P := P) (base := base) T
  refine T.f_doubled.ok sc_doubled (fun vs H Q E h => ?_) (fun cdv A outer s H vs Q E hr h => ?_)
  · obtain ⟨_, _, _, rfl, _⟩ := h
    rfl
  · have hu := hu_of hr
    have nd := sc_doubled.nd
    refine ⟨_, PSs.nox ((pss_cons (ps_set (i := 2) nd rfl (Or.inl rfl) (pe_callTy call_list_of rfl T.b_list (by decide +kernel) (pa_cons (pv 1) pa_nil)))
      (pss_cons (ps_set (i := 3) nd rfl (Or.inl rfl) pe_int)
      (pss_cons (ps_while PassesOwn.never (pt_cmpR op_lt (pv 3) (pe_callB call_len_seq rfl T.b_len PySem.boot_len (pa_cons (pv 2) pa_nil)) (nomark _))
      (pss_cons (ps_set (i := 4) nd rfl (Or.inl rfl) (pe_lst pa_nil))
      (pss_cons (ps_for PassesOwn.never rfl (pi_range1 rfl T.b_range (pa_cons (pe_callB call_len_seq rfl T.b_len PySem.boot_len (pa_cons (pv 2) pa_nil)) pa_nil)) (pg_name (i := 5) nd rfl (Or.inl rfl))
      (pss_one (ps_if (pt_cmpR op_lt (pv 5) (pv 3) (nomark _))
      (pss_one (ps_expr (pe_bm PySem.F.plainAttrs_list PySem.F.slot_list_append PySem.F.type_list_append mt_append (pv 4) (pa_cons (pe_ix ix_list (pv 2) (pv 5) (fun _ _ => rfl)) pa_nil))))
      (pss_one (ps_expr (pe_bm PySem.F.plainAttrs_list PySem.F.slot_list_append PySem.F.type_list_append mt_append (pv 4) (pa_cons (pe_cl C_joined (hr.mono (by decide)) (pa_cons (pv 0) (pa_cons (pe_ix ix_list (pv 2) (pe_op op_sub (pv 5) (pv 3)) (fun _ _ => rfl)) (pa_cons (pe_ix ix_list (pv 2) (pv 5) (fun _ _ => rfl)) pa_nil)))) pa_nil)))))))
      (pss_cons (ps_set (i := 2) nd rfl (Or.inl rfl) (pv 4))
      (pss_one (ps_aug (i := 3) nd rfl (Or.inl rfl) pe_int ip_mulR))))))
      (pss_one (ps_ret (pv 2))))))), ?_⟩
    obtain ⟨a, s, xs, rfl, hS, hF, hlen, hk, kQ⟩ := h
    have hwk : ∀ d k, KR (wins s xs d k) := fun d k => fold1_kr hF.f9 (win_kr hk _ _)
    refine ⟨_, rfl, a, _, rfl, .inl hS, fun l hl => ?_⟩
    refine while_by (fun σ H' => ∃ (r : Addr) (d : Nat) (v4 v5 : Option V), σ = [some (.str s), some (.ref a), some (.ref r), some (.int (d : Int)), v4, v5] ∧ Same H H' ∧ H r = none ∧ H' r = some (.lst ((List.range xs.length).map fun k => V.int (wins s xs d k))) ∧ 1 ≤ d)
      (fun σ H' => match σ with | [_, _, _, some (.int d), _, _] => (xs.length - d.toNat) | _ => 0) ⟨l, 1, none, none, rfl, same_new hl, hl, ?_, by decide⟩ ?_ ?_
    · rw [upd_same]
      congr 2
      apply List.ext_getElem?
      intro i
      by_cases hi : i < xs.length
      · rw [rm_get hi, List.getElem?_map, List.getElem?_eq_getElem hi, wins_one s xs i hi]
        rfl
      · rw [List.getElem?_eq_none (by simpa using hi), List.getElem?_eq_none (by simpa using hi)]
    · rintro σ H' ⟨r, d, v4, v5, rfl, s1, hr0, h1, hd⟩
      refine ⟨_, rfl, _, rfl, r, _, rfl, .inl (SqL.of h1), _, _, rfl, rfl, _, rfl, iteD (fun c => ?_) (fun c => ?_)⟩
      · rw [List.length_map, List.length_range] at c
        have hd2 : d < xs.length := by omega
        refine ⟨Nat.zero_le _, fun w hw => ?_⟩
        have nwr : w ≠ r := fun z => by rw [z, h1] at hw; cases hw
        refine ⟨_, rfl, r, _, rfl, .inl (SqL.of (by rw [upd_ne nwr.symm]; exact h1)), _, rfl, ?_⟩
        rw [List.length_map, List.length_range]
        refine ⟨Int.le_trans (by decide) (Int.natCast_nonneg _), Int.lt_of_le_of_lt (show (xs.length : Int) ≤ 1000 by omega) (by decide), ?_⟩
        rw [Int.toNat_natCast]
        refine for_range (fun i σ H2 => ∃ v5 : Option V, σ = [some (.str s), some (.ref a), some (.ref r), some (.int (d : Int)), some (.ref w), v5] ∧ Same H' H2 ∧ H2 w = some (.lst ((List.range i).map fun k => V.int (wins s xs (d * 2) k)))) ⟨v5, rfl, same_new hw, upd_same⟩ ?_ ?_
        · rintro i σ H2 hi ⟨v5, rfl, s2, h2⟩
          have e0 : (0 : Int) + (i : Int) = (i : Int) := Int.zero_add _
          rw [e0]
          have hrr := s2 _ _ h1
          have hi' : i < xs.length := hi
          refine ⟨_, rfl, _, rfl, _, _, rfl, rfl, _, rfl, iteD (fun c => ?_) (fun c => ?_)⟩
          · refine ⟨_, rfl, .inl ⟨rfl, _, SqL.of h2⟩, _, rfl, _, rfl, r, _, _, _, rfl, rfl, SqL.of hrr, atI_of rfl (rm_get hi'), ?_⟩
            refine ⟨w, _, _, rfl, rfl, h2, sz_lt (by rw [List.length_map, List.length_range]; omega), _, rfl, fun b o e => ?_, ?_⟩
            · rw [upd_ne (ne_of_none e hw)]
              exact s2 b o e
            · rw [upd_same, range_map_succ, wins_low s xs (by omega)]
          · obtain ⟨q, hq⟩ : ∃ q : Nat, (i : Int) - (d : Int) = (q : Int) := ⟨i - d, by omega⟩
            have hq' : q = i - d := by omega
            refine ⟨_, rfl, .inl ⟨rfl, _, SqL.of h2⟩, _, rfl, _, rfl, _, rfl, _, rfl, _, _, rfl, rfl, r, _, _, _, rfl, rfl, SqL.of hrr, atI_of hq (rm_get (by omega)), ?_⟩
            refine ⟨_, rfl, _, rfl, r, _, _, _, rfl, rfl, SqL.of hrr, atI_of rfl (rm_get hi'), s, _, _, rfl, hF.f9, hwk _ _, hwk _ _, ?_⟩
            refine ⟨w, _, _, rfl, rfl, h2, sz_lt (by rw [List.length_map, List.length_range]; omega), _, rfl, fun b o e => ?_, ?_⟩
            · rw [upd_ne (ne_of_none e hw)]
              exact s2 b o e
            · rw [upd_same, range_map_succ, wins_high hF xs (by omega) (by omega) hi', hq']
        · rintro σ H2 ⟨v5, rfl, s2, h2⟩
          refine ⟨_, rfl, _, rfl, _, _, rfl, rfl, cm2 (by decide), ⟨w, d * 2, some (.ref w), v5, ?_, s1.trans s2, s1.free hw, h2, by omega⟩, ?_⟩
          · have e2 : ((d * 2 : Nat) : Int) = (d : Int) * 2 := by push_cast; rfl
            rw [e2]
            rfl
          · show xs.length - ((d : Int) * 2).toNat < xs.length - (d : Int).toNat
            omega
      · rw [List.length_map, List.length_range] at c
        refine ⟨_, rfl, kQ r H' hr0 s1 ?_⟩
        rw [h1]
        unfold scan
        rw [List.map_map]
        congr 2
        refine List.map_congr_left fun k hk' => ?_
        show V.int _ = V.int _
        rw [wins_end s xs (by omega) (List.mem_range.mp hk')]
    · rintro σ H' Q1 Q2 hq ⟨v, e1, v2, e2, p, ys, e3, h1, i, j, e4, e5, k, e6, q⟩
      exact ⟨v, e1, v2, e2, p, ys, e3, h1, i, j, e4, e5, k, e6, hq _ _ q⟩
theorem cal_doubled {P : Program} {w : World} {K : PySem.W.Frag} {mg : Str → Option Value} {base : Heap} (T : Txt w K mg) : Cal P w K mg base 5 "doubled" ["fold", "numbers"] (sp_doubled K) := ⟨_, _, ok_doubled T, T.g_doubled, T.f_doubled.kp, T.f_doubled.bindsN (ps := ["fold", "numbers"]) fun _ _ _ _ _ _ us hl => match us, hl with | [_, _], _ => rfl⟩
def sp_runs_in_order (K : PySem.W.Frag) : Sp := fun vs H Q _ => ∃ (a : Addr) (s : Str) (xs : List Int) (c : Option Int), vs = [.str s, .ref a, ov c] ∧ SqL K H a (xs.map V.int) ∧ Fold9 s ∧ xs.length ≤ 1000 ∧ (∀ x ∈ xs, KR x) ∧ (∀ n, c = some n → KR n) ∧
  ∀ p H', H p = none → Same H H' → H' p = some (.lst ((runsOf s c xs).map V.int)) → Q (.ref p) H'
theorem sc_runs_in_order : FnScope ["fold", "numbers", "carried", "runs", "run", "number"] ["fold", "numbers", "carried"] (defScope s_runs_in_order) := ⟨rfl, rfl, rfl, by decide +kernel, rfl, by decide +kernel, by decide +kernel⟩
theorem ok_runs_in_order {P : Program} {w : World} {K : PySem.W.Frag} {mg : Str → Option Value} {base : Heap} (T : Txt w K mg) : FnOk P w K mg base CX0 5 (ad_runs_in_order K) (fdOf K (ad_runs_in_order K)) ["fold", "numbers", "carried"] (sp_runs_in_order K) := by
  have C_joined := cal_joined (P := P) (base := base) T
  refine T.f_runs_in_order.ok sc_runs_in_order (fun vs H Q E h => ?_) (fun cdv A outer s H vs Q E hr h => ?_)
  · obtain ⟨_, _, _, _, rfl, _⟩ := h
    rfl
  · have hu := hu_of hr
    have nd := sc_runs_in_order.nd
    refine ⟨_, PSs.nox ((pss_cons (ps_set (i := 3) nd rfl (Or.inl rfl) (pe_lst pa_nil))
      (pss_cons (ps_set (i := 4) nd rfl (Or.inl rfl) (pv 2))
      (pss_cons (ps_for PassesOwn.never rfl (pi_list (pv 1)) (pg_name (i := 5) nd rfl (Or.inl rfl))
      (pss_cons (ps_if (pt_cmpR op_isN (pv 4) pe_non (nomark _))
      (pss_one (ps_set (i := 4) nd rfl (Or.inl rfl) (pv 5)))
      (pss_one (ps_set (i := 4) nd rfl (Or.inl rfl) (pe_cl C_joined (hr.mono (by decide)) (pa_cons (pv 0) (pa_cons (pv 4) (pa_cons (pv 5) pa_nil)))))))
      (pss_one (ps_expr (pe_bm PySem.F.plainAttrs_list PySem.F.slot_list_append PySem.F.type_list_append mt_append (pv 3) (pa_cons (pv 4) pa_nil))))))
      (pss_one (ps_ret (pv 3))))))), ?_⟩
    obtain ⟨a, s, xs, c, rfl, hS, hF, hlen, hk, hc, kQ⟩ := h
    refine ⟨Nat.zero_le _, fun r hr0 => ?_⟩
    refine ⟨_, rfl, ?_⟩
    have nar : Same H (upd H r (.lst [])) := same_new hr0
    refine ⟨_, rfl, a, rfl, ⟨_, nar.seq hS⟩, for_list (K := K) (a := a) (xs := xs.map V.int) (fun i σ H' => ∃ v5 : Option V, σ = [some (.str s), some (.ref a), some (ov c), some (.ref r), some (ov (endR s c (xs.take i))), v5] ∧ Same H H' ∧ H' r = some (.lst ((runsOf s c (xs.take i)).map V.int)))
      ⟨none, rfl, nar, by rw [upd_same]; cases c <;> rfl⟩ (fun i σ H' _ ⟨_, _, s1, _⟩ => s1.seq hS) ?_ ?_⟩
    · rintro i y σ H' hi ⟨v5, rfl, s1, h1⟩
      obtain ⟨x, hx, rfl⟩ : ∃ x, xs[i]? = some x ∧ y = V.int x := by
        rw [List.getElem?_map] at hi
        cases e : xs[i]? with
        | none => rw [e] at hi; cases hi
        | some u => rw [e] at hi; exact ⟨u, rfl, (Option.some.inj hi).symm⟩
      have e0 : xs.take (i + 1) = xs.take i ++ [x] := by
        rw [List.take_add_one, hx]
        rfl
      have hxk : KR x := hk x (List.mem_of_getElem? hx)
      have hi' : i < xs.length := (List.getElem?_eq_some_iff.mp hx).1
      have hek := endR_kr hF (xs.take i) c (fun z hz => hk z (List.mem_of_mem_take hz)) hc
      have fin : ∀ H2, Same H H2 → H2 r = some (.lst ((runsOf s c (xs.take i)).map V.int)) → ∃ v5 : Option V, [some (.str s), some (.ref a), some (ov c), some (.ref r), some (V.int (stepR s (endR s c (xs.take i)) x)), some (V.int x)] = [some (.str s), some (.ref a), some (ov c), some (.ref r), some (ov (endR s c (xs.take (i + 1)))), v5] ∧
          Same H (upd H2 r (.lst ((runsOf s c (xs.take i)).map V.int ++ [V.int (stepR s (endR s c (xs.take i)) x)]))) ∧ upd H2 r (.lst ((runsOf s c (xs.take i)).map V.int ++ [V.int (stepR s (endR s c (xs.take i)) x)])) r = some (.lst ((runsOf s c (xs.take (i + 1))).map V.int)) := fun H2 s2 h2 => by
        refine ⟨some (V.int x), ?_, same_upd s2 hr0, ?_⟩
        · rw [e0, endR_snoc]
          rfl
        · rw [upd_same, e0, runsOf_snoc, List.map_append]
          rfl
      have hsz : ((runsOf s c (xs.take i)).map V.int).length < sizeLine := sz_lt (by
        rw [List.length_map, runsOf_len, List.length_take]
        omega)
      generalize hE : endR s c (xs.take i) = e at *
      refine ⟨_, rfl, rfl, _, rfl, ?_⟩
      cases e with
      | none =>
        refine iteDT rfl ?_
        refine ⟨_, rfl, ?_⟩
        refine ⟨_, rfl, .inl ⟨rfl, _, SqL.of h1⟩, _, rfl, r, _, _, rfl, rfl, h1, hsz, fin H' s1 h1⟩
      | some z =>
        refine iteDF (by intro q; cases q) ?_
        refine ⟨_, rfl, _, rfl, _, rfl, s, z, x, rfl, hF, hek z rfl, hxk, ?_⟩
        refine ⟨_, rfl, .inl ⟨rfl, _, SqL.of h1⟩, _, rfl, r, _, _, rfl, rfl, h1, hsz, fin H' s1 h1⟩
    · rintro σ H' ⟨v5, rfl, s1, h1⟩
      rw [List.length_map, List.take_length] at h1
      exact ⟨_, rfl, kQ r H' hr0 s1 h1⟩
theorem cal_runs_in_order {P : Program} {w : World} {K : PySem.W.Frag} {mg : Str → Option Value} {base : Heap} (T : Txt w K mg) : Cal P w K mg base 5 "runs_in_order" ["fold", "numbers", "carried"] (sp_runs_in_order K) := ⟨_, _, ok_runs_in_order T, T.g_runs_in_order, T.f_runs_in_order.kp, T.f_runs_in_order.bindsN (ps := ["fold", "numbers", "carried"]) fun _ _ _ _ _ _ us hl => match us, hl with | [_, _, _], _ => rfl⟩
def sp_runs_at_once (K : PySem.W.Frag) : Sp := fun vs H Q _ => ∃ (a : Addr) (s : Str) (xs : List Int) (c : Option Int), vs = [.str s, .ref a, ov c] ∧ SqL K H a (xs.map V.int) ∧ FreeF s ∧ xs.length ≤ 1000 ∧ (∀ x ∈ xs, KR x) ∧ (∀ n, c = some n → KR n) ∧
  ∀ p H', H p = none → Same H H' → H' p = some (.lst ((runsOf s c xs).map V.int)) → Q (.ref p) H'
theorem sc_runs_at_once : FnScope ["fold", "numbers", "carried", "runs", "run"] ["fold", "numbers", "carried"] (defScope s_runs_at_once) := ⟨rfl, rfl, rfl, by decide +kernel, rfl, by decide +kernel, by decide +kernel⟩
theorem ok_runs_at_once {P : Program} {w : World} {K : PySem.W.Frag} {mg : Str → Option Value} {base : Heap} (T : Txt w K mg) : FnOk P w K mg base CX0 6 (ad_runs_at_once K) (fdOf K (ad_runs_at_once K)) ["fold", "numbers", "carried"] (sp_runs_at_once K) := by
  have C_joined := cal_joined (P := P) (base := base) T
  have C_doubled := cal_doubled (P := P) (base := base) T
  refine T.f_runs_at_once.ok sc_runs_at_once (fun vs H Q E h => ?_) (fun cdv A outer s H vs Q E hr h => ?_)
  · obtain ⟨_, _, _, _, rfl, _⟩ := h
    rfl
  · have hu := hu_of hr
    have nd := sc_runs_at_once.nd
    refine ⟨_, PSs.nox ((pss_cons (ps_set (i := 3) nd rfl (Or.inl rfl) (pe_cl C_doubled (hr.mono (by decide)) (pa_cons (pv 0) (pa_cons (pv 1) pa_nil))))
      (pss_cons (ps_if (pt_cmpR op_isN (pv 2) pe_non (nomark _))
      (pss_one (ps_ret (pv 3)))
      pss_nil)
      (pss_one (ps_ret (pe_lc (own := [("run", 4)]) (g := gName 4) rfl nd (pi_list (pv 3)) (blkOk_by (N := ["fold", "numbers", "carried", "runs", "run"]) (sc := defScope s_runs_at_once) (by decide +kernel)) (fun _ _ _ _ _ => pg_name (i := 4) nd rfl (Or.inl rfl)) (fun _ _ _ _ _ => pts_nil) (fun _ _ _ _ _ => (pe_cl C_joined (hr.mono (by decide)) (pa_cons (pv 0) (pa_cons (pv 2) (pa_cons (pv 4) pa_nil))))))))))), ?_⟩
    obtain ⟨a, s, xs, c, rfl, hS, hF, hlen, hk, hc, kQ⟩ := h
    refine ⟨_, rfl, _, rfl, a, s, xs, rfl, hS, hF, hlen, hk, fun p H1 hp s1 h1 => ?_⟩
    have hsl : (scan s xs).length = xs.length := by unfold scan; rw [List.length_map, List.length_range]
    have hsk : ∀ x ∈ scan s xs, KR x := fun x hx => by
      unfold scan at hx
      obtain ⟨k, _, e⟩ := List.mem_map.mp hx
      rw [← e]
      exact fold1_kr hF.f9 fun z hz => hk z (List.mem_of_mem_take hz)
    refine ⟨_, rfl, rfl, _, rfl, ?_⟩
    cases c with
    | none =>
      refine iteDT rfl ⟨_, rfl, kQ p H1 hp s1 ?_⟩
      rw [h1, scan_none hF]
    | some z =>
      refine iteDF (by intro q; cases q) ?_
      refine ⟨_, rfl, p, rfl, ⟨_, SqL.of h1⟩, fun D hD => ?_⟩
      refine comp_list (K := K) hD (SqL.of h1) (fun y => match y with | .int n => .int (jn s z n) | v => v) (fun _ => true) (by rw [List.length_map, hsl]; omega) (fun x H2 _ _ Q' q => yes_ok q) (fun y H2 hy _ s2 Q' q => ?_) (fun H2 s2 h2 => kQ D H2 (s1.free hD) (s1.trans s2) ?_)
      · obtain ⟨n, hn, rfl⟩ := List.mem_map.mp hy
        exact ⟨_, rfl, _, rfl, _, rfl, s, z, n, rfl, hF.f9, hc z rfl, hsk n hn, q _ (Same.refl _)⟩
      · rw [h2, List.filter_eq_self.mpr (fun _ _ => rfl), ← scan_some hF, List.map_map, List.map_map]
        rfl
theorem cal_runs_at_once {P : Program} {w : World} {K : PySem.W.Frag} {mg : Str → Option Value} {base : Heap} (T : Txt w K mg) : Cal P w K mg base 6 "runs_at_once" ["fold", "numbers", "carried"] (sp_runs_at_once K) := ⟨_, _, ok_runs_at_once T, T.g_runs_at_once, T.f_runs_at_once.kp, T.f_runs_at_once.bindsN (ps := ["fold", "numbers", "carried"]) fun _ _ _ _ _ _ us hl => match us, hl with | [_, _, _], _ => rfl⟩
end Rb
end

section
set_option Elab.async false
set_option linter.all false
set_option maxRecDepth 100000
set_option maxHeartbeats 4000000
namespace Rb
open PySem PySem.Spec PyProof.Rows L2

section
variable {w : World} {K : PySem.W.Frag} {mg : Str → Option Value} {H0 H1 H H' : Hp} {ad : Ro → Addr} {m m' : MS}
theorem BA.tup (B : BA K H0 ad m H) {a : Addr} {xs : List V} (h : H0 a = some (.tup xs)) : SqT K H a xs := SqT.of (B.same _ _ h)
theorem act_lt {k j : Nat} (h : m.act k j = true) : j < m.width := by
  unfold MS.act at h
  rw [Bool.and_eq_true] at h
  exact of_decide_eq_true h.1
theorem mem_actL {k j : Nat} : j ∈ m.actL k ↔ m.act k j = true := by
  unfold MS.actL
  rw [List.mem_filter, List.mem_range]
  exact ⟨fun h => h.2, fun h => ⟨act_lt h, h⟩⟩
theorem actL_len (wf : m.WF) (k : Nat) : (m.actL k).length ≤ 256 := by
  unfold MS.actL
  have h1 := List.length_filter_le (m.act k) (List.range m.width)
  rw [List.length_range] at h1
  have h2 := wf.w4
  have h3 := wf.w256
  omega
theorem MS.WF.gl (wf : m.WF) : -(2 ^ 62) ≤ ((m.g : Int) * (m.lanes : Int)) ∧ (m.g : Int) * (m.lanes : Int) < 2 ^ 62 ∧ ((m.g : Int) * (m.lanes : Int)).toNat = m.g * m.lanes ∧ CMul (m.g : Int) (m.lanes : Int) := by
  have h := wf.w256
  have e : (m.g : Int) * (m.lanes : Int) = ((m.g * m.lanes : Nat) : Int) := by push_cast; rfl
  have g4 : m.g ≤ 4 := by rcases wf.g3 with e | e | e <;> omega
  rw [e]
  refine ⟨Int.le_trans (by decide) (Int.natCast_nonneg _), Int.lt_of_le_of_lt (show ((m.g * m.lanes : Nat) : Int) ≤ 256 by omega) (by decide), Int.toNat_natCast _, cm (by omega)⟩
theorem il_get {l : List Nat} {i : Nat} {y : V} (h : (l.map fun (j : Nat) => V.int (j : Int))[i]? = some y) : ∃ j, l[i]? = some j ∧ y = V.int ((j : Nat) : Int) := by
  rw [List.getElem?_map] at h
  cases e : l[i]? with
  | none => rw [e] at h; cases h
  | some u => rw [e] at h; exact ⟨u, rfl, (Option.some.inj h).symm⟩
theorem take_snoc {α : Type} {l : List α} {i : Nat} {x : α} (h : l[i]? = some x) : l.take (i + 1) = l.take i ++ [x] := by
  rw [List.take_add_one, h]
  rfl
end
/-- what choose (other) makes of a lane -/
def MS.chosen (m : MS) (oth : Bool) (md p j : Nat) : Bool := m.act md j && ((m.sn p j == 0) == oth)
def sp_lay_mask (K : PySem.W.Frag) : Sp := fun vs H Q _ => ∃ (H0 : Hp) (ad : Ro → Addr) (m : MS) (sa : Addr) (oth : Bool) (k p md : Nat), vs = [.ref (ad .bench), .ref sa] ∧ BA K H0 ad m H ∧ m.on = true ∧ H0 sa = some (.tup [.str (if oth then "other" else "choose"), .int k, .int p, .int md]) ∧ k < 16 ∧ p < 8 / m.g ∧ md < 16 ∧
  ∀ ma' H', (∀ k', k' ≠ k → ∀ j, ma' k' j = m.ma k' j) → (∀ j, j < m.width → ma' k j = m.chosen oth md p j) → BA K H0 ad { m with ma := ma' } H' → Q .non H'
theorem sc_lay_mask : FnScope ["bench", "step", "now", "lane", "truth", "nought"] ["bench", "step"] (defScope s_lay_mask) := ⟨rfl, rfl, rfl, by decide +kernel, rfl, by decide +kernel, by decide +kernel⟩
theorem ok_lay_mask {P : Program} {w : World} {K : PySem.W.Frag} {mg : Str → Option Value} {base : Heap} (T : Txt w K mg) : FnOk P w K mg base CX0 3 (ad_lay_mask K) (fdOf K (ad_lay_mask K)) ["bench", "step"] (sp_lay_mask K) := by
  have C_Feed_taken := cal_Feed_taken (P := P) (base := base) T
  have C_lane_active := cal_lane_active (P := P) (base := base) T
  have C_seat_number := cal_seat_number (P := P) (base := base) T
  refine T.f_lay_mask.ok sc_lay_mask (fun vs H Q E h => ?_) (fun cdv A outer s H vs Q E hr h => ?_)
  · obtain ⟨_, _, _, _, _, _, _, _, rfl, _⟩ := h
    rfl
  · have hu := hu_of hr
    have nd := sc_lay_mask.nd
    refine ⟨_, PSs.nox ((pss_cons (ps_set (i := 2) nd rfl (Or.inl rfl) (pe_fld (pv 0) rfl))
      (pss_one (ps_for PassesOwn.never rfl (pi_range1 rfl T.b_range (pa_cons (pe_op op_mul (pe_fld (pv 2) rfl) (pe_fld (pv 0) rfl)) pa_nil)) (pg_name (i := 3) nd rfl (Or.inl rfl))
      (pss_cons (ps_if (pt_cmpR op_ge (pv 3) (pe_fld (pv 2) rfl) (nomark _))
      (pss_one (ps_set (i := 4) nd rfl (Or.inl rfl) (pe_cmpR op_eq (pe_op op_mod (pe_clm0 (pe_fld (pv 0) rfl) C_Feed_taken (hr.mono (by decide))) pe_int) pe_int (nomark _))))
      (pss_one (ps_if (pt_val (pe_cl C_lane_active (hr.mono (by decide)) (pa_cons (pv 0) (pa_cons (pe_ix ix_tup (pv 1) pe_int (fun _ _ => rfl)) (pa_cons (pv 3) pa_nil)))))
      (pss_cons (ps_set (i := 5) nd rfl (Or.inl rfl) (pe_cmpR op_eq (pe_cl C_seat_number (hr.mono (by decide)) (pa_cons (pv 0) (pa_cons (pe_ix ix_tup (pv 1) pe_int (fun _ _ => rfl)) (pa_cons (pv 3) pa_nil)))) pe_int (nomark _)))
      (pss_one (ps_set (i := 4) nd rfl (Or.inl rfl) (pe_cmpR op_eq (pv 5) (pe_cmpR op_eq (pe_ix ix_tup (pv 1) pe_int (fun _ _ => rfl)) pe_str (nomark _)) (nomark _)))))
      (pss_one (ps_set (i := 4) nd rfl (Or.inl rfl) pe_bl)))))
      (pss_one (ps_asg (pv 4) (pg_sub (pe_ix ix_list (pe_fld (pv 0) rfl) (pe_ix ix_tup (pv 1) pe_int (fun _ _ => rfl)) (fun _ _ => rfl)) (pv 3) set_list)))))))), ?_⟩
    obtain ⟨H0, ad, m, sa, oth, k, p, md, rfl, B, on, hs, hk, hp, hmd, kQ⟩ := h
    have wf := B.wf
    obtain ⟨g1, g2, g3, g4⟩ := wf.gl
    refine ⟨_, rfl, B.now T on ⟨_, rfl, B.fS T on rfl T.n_Strip_group ⟨_, rfl, B.fB T (fun _ => rfl) T.n_Bench_lanes ⟨_, _, rfl, rfl, g4, _, rfl, g1, g2, ?_⟩⟩⟩⟩
    rw [g3]
    refine for_range (fun i σ H' => ∃ (v3 v4 v5 : Option V) (ma' : Nat → Nat → Bool), σ = [some (.ref (ad .bench)), some (.ref sa), some (.ref (ad .strip)), v3, v4, v5] ∧ BA K H0 ad { m with ma := ma' } H' ∧ (∀ k', k' ≠ k → ∀ j, ma' k' j = m.ma k' j) ∧ (∀ j, i ≤ j → ma' k j = m.ma k j) ∧ (∀ j, j < i → j < m.width → ma' k j = m.chosen oth md p j))
      ⟨none, none, none, m.ma, rfl, B, fun _ _ _ => rfl, fun _ _ => rfl, fun j h => absurd h (Nat.not_lt_zero j)⟩ ?_ ?_
    · rintro i σ H' hi ⟨v3, v4, v5, ma', rfl, B1, h1, h2, h3⟩
      have e0 : (0 : Int) + (i : Int) = (i : Int) := Int.zero_add _
      rw [e0]
      have hi4 : i < 4 * m.lanes := Nat.lt_of_lt_of_le hi wf.w256.1
      have put : ∀ (b : Bool) (H2 : Hp) (v4 v5 : Option V) (R : L2.St → Hp → Prop), (i < m.width → b = m.chosen oth md p i) → BA K H0 ad { m with ma := ma' } H2 →
          (∀ H3 ma'', BA K H0 ad { m with ma := ma'' } H3 → (∀ k', k' ≠ k → ∀ j, ma'' k' j = m.ma k' j) → (∀ j, i + 1 ≤ j → ma'' k j = m.ma k j) → (∀ j, j < i + 1 → j < m.width → ma'' k j = m.chosen oth md p j) → R [some (.ref (ad .bench)), some (.ref sa), some (.ref (ad .strip)), some (.int (i : Int)), v4, v5] H3) →
          ∃ p_1 xs k_1 j, V.ref (ad (.mask k)) = .ref p_1 ∧ V.int (i : Int) = .int k_1 ∧ H2 p_1 = some (.lst xs) ∧ ixN xs.length k_1 = some j ∧ R [some (.ref (ad .bench)), some (.ref sa), some (.ref (ad .strip)), some (.int (i : Int)), v4, v5] (upd H2 p_1 (.lst (xs.set j (.bl b)))) := by
        intro b H2 v4 v5 R hb B2 hR
        have hm := B2.lst (r := .mask k) (decide_eq_true hk) (xs := _) fun _ => rfl
        refine ⟨_, _, _, i, rfl, rfl, hm, ixN_of rfl (by rw [List.length_map, List.length_range]; exact hi4), hR _ (upd2 ma' k i b) (B2.w_mask b hk hi4) (fun k' hk' j => ?_) (fun j hj => ?_) fun j hj hjw => ?_⟩
        · rw [upd2_ne (fun z => hk' z.1)]
          exact h1 k' hk' j
        · rw [upd2_ne (fun z => by omega)]
          exact h2 j (by omega)
        · by_cases e : j = i
          · rw [e, upd2_same]
            exact hb (by omega)
          · rw [upd2_ne (fun z => e z.2)]
            exact h3 j (by omega) hjw
      have fin : ∀ (b : Bool) (H2 : Hp) (v5 : Option V) (D : Ends), (i < m.width → b = m.chosen oth md p i) → BA K H0 ad { m with ma := ma' } H2 →
          (∀ H3 v4 v5 ma'', BA K H0 ad { m with ma := ma'' } H3 → (∀ k', k' ≠ k → ∀ j, ma'' k' j = m.ma k' j) → (∀ j, i + 1 ≤ j → ma'' k j = m.ma k j) → (∀ j, j < i + 1 → j < m.width → ma'' k j = m.chosen oth md p j) → D.nx [some (.ref (ad .bench)), some (.ref sa), some (.ref (ad .strip)), some (.int (i : Int)), v4, v5] H3) →
          tAsg (tVar 4) (gSub (tOp (rIxL K) (tFld K (tVar 0) "masks") (tOp (rIxT K) (tVar 1) (tC (.int 1)))) (tVar 3) rSetL) D [some (.ref (ad .bench)), some (.ref sa), some (.ref (ad .strip)), some (.int (i : Int)), some (.bl b), v5] H2 := by
        intro b H2 v5 D hb B2 hW
        have hL := B2.lst (r := .masksL) rfl (xs := (List.range 16).map fun i => .ref (ad (.mask i))) fun _ => rfl
        refine ⟨_, rfl, _, rfl, B2.fB T (fun _ => rfl) T.n_Bench_masks ⟨_, rfl, _, _, _, _, rfl, rfl, B2.tup hs, atI_of (j := 1) rfl rfl, _, _, _, _, rfl, rfl, SqL.of hL, atI_of rfl (rm_get hk), _, rfl, put b H2 _ _ D.nx hb B2 fun H3 ma'' a b c d => hW H3 _ _ ma'' a b c d⟩⟩
      have out : ∀ H3 (v4 v5 : Option V) ma'', BA K H0 ad { m with ma := ma'' } H3 → (∀ k', k' ≠ k → ∀ j, ma'' k' j = m.ma k' j) → (∀ j, i + 1 ≤ j → ma'' k j = m.ma k j) → (∀ j, j < i + 1 → j < m.width → ma'' k j = m.chosen oth md p j) →
          ∃ (v3 v4' v5' : Option V) (ma' : Nat → Nat → Bool), [some (.ref (ad .bench)), some (.ref sa), some (.ref (ad .strip)), some (V.int (i : Int)), v4, v5] = [some (.ref (ad .bench)), some (.ref sa), some (.ref (ad .strip)), v3, v4', v5'] ∧ BA K H0 ad { m with ma := ma' } H3 ∧ (∀ k', k' ≠ k → ∀ j, ma' k' j = m.ma k' j) ∧ (∀ j, i + 1 ≤ j → ma' k j = m.ma k j) ∧ (∀ j, j < i + 1 → j < m.width → ma' k j = m.chosen oth md p j) :=
        fun H3 v4 v5 ma'' a b c d => ⟨_, _, _, ma'', rfl, a, b, c, d⟩
      have hact : ({ m with ma := ma' } : MS).act md i = m.act md i := by
        unfold MS.act
        by_cases e : md = k
        · rw [e]
          show (decide (i < m.width) && ((m.fl i).isNone && ma' k i)) = _
          rw [h2 i (Nat.le_refl _)]
        · show (decide (i < m.width) && ((m.fl i).isNone && ma' md i)) = _
          rw [h1 md e i]
      refine ⟨_, rfl, _, rfl, B1.fS T on rfl T.n_Strip_width ⟨_, _, rfl, rfl, _, rfl, iteD (fun c => ?_) (fun c => ?_)⟩⟩
      · obtain ⟨dx, fs, p1, p2, p3⟩ := B1.dust
        refine ⟨_, rfl, B1.fB T (fun _ => rfl) T.n_Bench_dust ⟨_, dx, fs, rfl, p1, p2, p3 _ _ _ fun n H2 hn B2 => ⟨_, _, rfl, rfl, (by show (0 : Int) < 2; decide), rfl, ?_⟩⟩⟩
        have c' : (m.width : Int) ≤ (i : Int) := c
        exact fin _ H2 v5 _ (fun hlt => by omega) B2 out
      refine ⟨_, rfl, _, rfl, _, _, _, _, rfl, rfl, B1.tup hs, atI_of (j := 3) rfl rfl, _, rfl, H0, ad, _, md, i, rfl, B1, on, hmd, _, rfl, ?_⟩
      rw [hact]
      cases hA : m.act md i with
      | true =>
        refine ⟨_, rfl, _, rfl, _, _, _, _, rfl, rfl, B1.tup hs, atI_of (j := 2) rfl rfl, _, rfl, H0, ad, _, p, i, rfl, B1, on, hp, hi, rfl, ?_⟩
        refine ⟨_, rfl, _, rfl, _, _, _, _, rfl, rfl, B1.tup hs, atI_of (j := 0) rfl rfl, rfl, rfl, ?_⟩
        refine fin _ H' _ _ (fun hlt => ?_) B1 out
        unfold MS.chosen
        rw [hA]
        have d1 : ¬ (Str.ofString "choose" = Str.ofString "other") := by decide +kernel
        cases oth <;> by_cases z : m.sn p i = 0 <;> simp [z, d1]
      | false =>
        refine fin false H' v5 _ (fun hlt => ?_) B1 out
        unfold MS.chosen
        rw [hA]
        rfl
    · rintro σ H' ⟨v3, v4, v5, ma', rfl, B1, h1, h2, h3⟩
      exact kQ ma' H' h1 (fun j hj => h3 j (Nat.lt_of_lt_of_le hj wf.wd) hj) B1
theorem cal_lay_mask {P : Program} {w : World} {K : PySem.W.Frag} {mg : Str → Option Value} {base : Heap} (T : Txt w K mg) : Cal P w K mg base 3 "lay_mask" ["bench", "step"] (sp_lay_mask K) := ⟨_, _, ok_lay_mask T, T.g_lay_mask, T.f_lay_mask.kp, T.f_lay_mask.bindsN (ps := ["bench", "step"]) fun _ _ _ _ _ _ us hl => match us, hl with | [_, _], _ => rfl⟩
end Rb
end

section
set_option Elab.async false
set_option linter.all false
set_option maxRecDepth 100000
set_option maxHeartbeats 4000000
namespace Rb
open PySem PySem.Spec PyProof.Rows L2

def sp_reach_lanes (K : PySem.W.Frag) : Sp := fun vs H Q _ => ∃ (H0 : Hp) (ad : Ro → Addr) (m : MS) (sa : Addr) (p : Nat) (n : Int) (md : Nat), vs = [.ref (ad .bench), .ref sa] ∧ BA K H0 ad m H ∧ m.on = true ∧ H0 sa = some (.tup [.str "reach", .int p, .int n, .int md]) ∧ p < 8 / m.g ∧ md < 16 ∧ m.tn + 400 < 10000000 ∧
  ∀ (fl' : Nat → Option Str) (t' : Nat) (H' : Hp), (∀ j, fl' j = if m.act md j = true ∧ ¬ (0 ≤ m.sn p j ∧ m.sn p j < n) then some ("outside" : Str) else m.fl j) → t' ≤ m.tn + 400 → BA K H0 ad { m with fl := fl', tn := t' } H' → Q .non H'
theorem sc_reach_lanes : FnScope ["bench", "step", "lane"] ["bench", "step"] (defScope s_reach_lanes) := ⟨rfl, rfl, rfl, by decide +kernel, rfl, by decide +kernel, by decide +kernel⟩
theorem ok_reach_lanes {P : Program} {w : World} {K : PySem.W.Frag} {mg : Str → Option Value} {base : Heap} (T : Txt w K mg) : FnOk P w K mg base CX0 3 (ad_reach_lanes K) (fdOf K (ad_reach_lanes K)) ["bench", "step"] (sp_reach_lanes K) := by
  have C_active_lanes := cal_active_lanes (P := P) (base := base) T
  have C_seat_number := cal_seat_number (P := P) (base := base) T
  refine T.f_reach_lanes.ok sc_reach_lanes (fun vs H Q E h => ?_) (fun cdv A outer s H vs Q E hr h => ?_)
  · obtain ⟨_, _, _, _, _, _, _, rfl, _⟩ := h
    rfl
  · have hu := hu_of hr
    have nd := sc_reach_lanes.nd
    refine ⟨_, PSs.nox ((pss_one (ps_for PassesOwn.never rfl (pi_list (pe_cl C_active_lanes (hr.mono (by decide)) (pa_cons (pv 0) (pa_cons (pe_ix ix_tup (pv 1) pe_int (fun _ _ => rfl)) pa_nil)))) (pg_name (i := 2) nd rfl (Or.inl rfl))
      (pss_one (ps_if (pt_not (pt_chain op_le op_lt pe_int (pe_cl C_seat_number (hr.mono (by decide)) (pa_cons (pv 0) (pa_cons (pe_ix ix_tup (pv 1) pe_int (fun _ _ => rfl)) (pa_cons (pv 2) pa_nil)))) (pe_ix ix_tup (pv 1) pe_int (fun _ _ => rfl))))
      (pss_one (ps_dput hu (pe_fld (pe_fld (pv 0) rfl) rfl) (pv 2) pe_str rfl))
      pss_nil))))), ?_⟩
    obtain ⟨H0, ad, m, sa, p, n, md, rfl, B, on, hs, hp, hmd, ht, kQ⟩ := h
    have wf := B.wf
    refine ⟨_, rfl, _, rfl, _, _, _, _, rfl, rfl, B.tup hs, atI_of (j := 3) rfl rfl, H0, ad, m, md, rfl, B, on, hmd, fun l H1 hl s1 h1 => ?_⟩
    have B1 := B.sm s1
    have hof : offH ad m.on H1 l = some _ := B.out_new hl s1 h1
    have hs' := B1.back _ _ hs
    refine ⟨l, rfl, ⟨_, SqL.of h1⟩, for_list (K := K) (a := l) (xs := (m.actL md).map fun (j : Nat) => V.int (j : Int)) (fun i σ H' => ∃ (v2 : Option V) (fl' : Nat → Option Str) (t' : Nat), σ = [some (.ref (ad .bench)), some (.ref sa), v2] ∧ BA K (offH ad m.on H1) ad { m with fl := fl', tn := t' } H' ∧ t' ≤ m.tn + i ∧ (∀ j, fl' j = if j ∈ (m.actL md).take i ∧ ¬ (0 ≤ m.sn p j ∧ m.sn p j < n) then some ("outside" : Str) else m.fl j))
      ⟨none, m.fl, m.tn, rfl, B1.rebase, Nat.le_refl _, fun j => by simp⟩ (fun i σ H' _ ⟨_, _, _, _, B2, _⟩ => SqL.of (B2.same _ _ hof)) ?_ ?_⟩
    · rintro i y σ H' hi ⟨v2, fl', t', rfl, B2, ht', hf⟩
      obtain ⟨j, hj, rfl⟩ := il_get hi
      have hja : m.act md j = true := mem_actL.mp (List.mem_of_getElem? hj)
      have hjw := act_lt hja
      have hjg : j < m.g * m.lanes := Nat.lt_of_lt_of_le hjw wf.wd
      have hil : i < 256 := Nat.lt_of_lt_of_le (List.getElem?_eq_some_iff.mp hj).1 (actL_len wf md)
      have keep : (0 ≤ m.sn p j ∧ m.sn p j < n) → ∃ (v2 : Option V) (fl' : Nat → Option Str) (t' : Nat), [some (.ref (ad .bench)), some (.ref sa), some (V.int (j : Int))] = [some (.ref (ad .bench)), some (.ref sa), v2] ∧ BA K (offH ad m.on H1) ad { m with fl := fl', tn := t' } H' ∧ t' ≤ m.tn + (i + 1) ∧ (∀ j, fl' j = if j ∈ (m.actL md).take (i + 1) ∧ ¬ (0 ≤ m.sn p j ∧ m.sn p j < n) then some ("outside" : Str) else m.fl j) := fun hc => by
        refine ⟨_, fl', t', rfl, B2, by omega, fun x => ?_⟩
        rw [hf x, take_snoc hj]
        by_cases e : x = j
        · subst e
          rw [if_neg (fun z => z.2 hc), if_neg (fun z => z.2 hc)]
        · simp [e]
      have lay : ¬ (0 ≤ m.sn p j ∧ m.sn p j < n) → ∃ H4, DPut H' (ad .flts) (.int (j : Int)) (.str "outside") H4 ∧ ∃ (v2 : Option V) (fl' : Nat → Option Str) (t' : Nat), [some (.ref (ad .bench)), some (.ref sa), some (V.int (j : Int))] = [some (.ref (ad .bench)), some (.ref sa), v2] ∧ BA K (offH ad m.on H1) ad { m with fl := fl', tn := t' } H4 ∧ t' ≤ m.tn + (i + 1) ∧ (∀ j, fl' j = if j ∈ (m.actL md).take (i + 1) ∧ ¬ (0 ≤ m.sn p j ∧ m.sn p j < n) then some ("outside" : Str) else m.fl j) := fun hc => by
        obtain ⟨H4, d1, B4⟩ := B2.dput on (show t' < 10000000 by omega) j "outside"
        refine ⟨H4, d1, _, _, _, rfl, B4, by show t' + 1 ≤ _; omega, fun x => ?_⟩
        rw [take_snoc hj]
        show upd1 fl' j (some ("outside" : Str)) x = _
        unfold upd1
        by_cases e : x = j
        · subst e
          rw [if_pos rfl, if_pos ⟨by simp, hc⟩]
        · rw [if_neg e, hf x]
          simp [e]
      refine ⟨_, rfl, _, rfl, _, _, _, _, rfl, rfl, B2.tup hs', atI_of (j := 1) rfl rfl, _, rfl, _, ad, _, p, j, rfl, B2, on, hp, hjg, ?_⟩
      refine ⟨_, _, rfl, rfl, _, rfl, iteD (fun c1 => ?_) (fun c1 => ?_)⟩
      · refine ⟨_, rfl, _, _, _, _, rfl, rfl, B2.tup hs', atI_of (j := 2) rfl rfl, _, _, rfl, rfl, _, rfl, iteN (fun c2 => ?_) (fun c2 => ?_)⟩
        · obtain ⟨H4, d1, d2⟩ := lay fun z => c2 z.2
          exact ⟨_, rfl, B2.now T on (B2.fS T on rfl T.n_Strip_faults ⟨_, rfl, _, H4, rfl, d1, d2⟩)⟩
        · exact keep ⟨c1, c2⟩
      · obtain ⟨H4, d1, d2⟩ := lay fun z => c1 z.1
        exact ⟨_, rfl, _, rfl, B2.now T on (B2.fS T on rfl T.n_Strip_faults ⟨_, rfl, _, H4, rfl, d1, d2⟩)⟩
    · rintro σ H' ⟨v2, fl', t', rfl, B2, ht', hf⟩
      rw [List.length_map] at ht' hf
      have hl256 := actL_len wf md
      refine kQ fl' t' H' (fun j => ?_) (by omega) (B2.weaken B1.back)
      rw [hf j, List.take_length]
      simp only [mem_actL]
theorem cal_reach_lanes {P : Program} {w : World} {K : PySem.W.Frag} {mg : Str → Option Value} {base : Heap} (T : Txt w K mg) : Cal P w K mg base 3 "reach_lanes" ["bench", "step"] (sp_reach_lanes K) := ⟨_, _, ok_reach_lanes T, T.g_reach_lanes, T.f_reach_lanes.kp, T.f_reach_lanes.bindsN (ps := ["bench", "step"]) fun _ _ _ _ _ _ us hl => match us, hl with | [_, _], _ => rfl⟩
end Rb
end

section
set_option Elab.async false
set_option linter.all false
set_option maxRecDepth 100000
set_option maxHeartbeats 4000000
namespace Rb
open PySem PySem.Spec PyProof.Rows L2

def sp_trim_strip (K : PySem.W.Frag) : Sp := fun vs H Q _ => ∃ (H0 : Hp) (ad : Ro → Addr) (m : MS), vs = [.ref (ad .bench)] ∧ BA K H0 ad m H ∧ m.on = true ∧ (∀ c, m.cut = some c → c = m.width) ∧
  (∀ c, c < m.width → (m.fl c).isSome = true → (∀ j, j < c → m.fl j = none) → ∀ H', BA K H0 ad { m with cut := some c, width := c } H' → Q .non H') ∧
  ((∀ j, j < m.width → m.fl j = none) → ∀ H', BA K H0 ad m H' → Q .non H')
theorem sc_trim_strip : FnScope ["bench", "now", "lane"] ["bench"] (defScope s_trim_strip) := ⟨rfl, rfl, rfl, by decide +kernel, rfl, by decide +kernel, by decide +kernel⟩
theorem ok_trim_strip {P : Program} {w : World} {K : PySem.W.Frag} {mg : Str → Option Value} {base : Heap} (T : Txt w K mg) : FnOk P w K mg base CX0 1 (ad_trim_strip K) (fdOf K (ad_trim_strip K)) ["bench"] (sp_trim_strip K) := by
  refine T.f_trim_strip.ok sc_trim_strip (fun vs H Q E h => ?_) (fun cdv A outer s H vs Q E hr h => ?_)
  · obtain ⟨_, _, _, rfl, _⟩ := h
    rfl
  · have hu := hu_of hr
    have nd := sc_trim_strip.nd
    refine ⟨_, PSs.nox ((pss_cons (ps_set (i := 1) nd rfl (Or.inl rfl) (pe_fld (pv 0) rfl))
      (pss_cons (ps_for PassesOwn.never rfl (pi_range1 rfl T.b_range (pa_cons (pe_fld (pv 1) rfl) pa_nil)) (pg_name (i := 2) nd rfl (Or.inl rfl))
      (pss_one (ps_if (pt_cmp (pc_din hu (pv 2) (pe_fld (pv 1) rfl)))
      (pss_cons (ps_fld (pv 1) (pv 2) rfl)
      (pss_one ps_break))
      pss_nil)))
      (pss_one (ps_if (pt_cmpR op_notN (pe_fld (pv 1) rfl) pe_non (nomark _))
      (pss_one (ps_fld (pv 1) (pe_fld (pv 1) rfl) rfl))
      pss_nil))))), ?_⟩
    obtain ⟨H0, ad, m, rfl, B, on, hc, kF, kN⟩ := h
    have wf := B.wf
    have w4 := wf.w4
    have w5 := wf.w256
    refine ⟨_, rfl, B.now T on ⟨_, rfl, B.fS T on rfl T.n_Strip_width ⟨_, rfl, Int.le_trans (by decide) (Int.natCast_nonneg _), Int.lt_of_le_of_lt (show (m.width : Int) ≤ 256 by omega) (by decide), ?_⟩⟩⟩
    rw [Int.toNat_natCast]
    refine for_range (fun i σ H' => ∃ (v2 : Option V), σ = [some (.ref (ad .bench)), some (.ref (ad .strip)), v2] ∧ BA K H0 ad m H' ∧ ∀ j, j < i → m.fl j = none) ⟨none, rfl, B, fun j h => absurd h (Nat.not_lt_zero j)⟩ ?_ ?_
    · rintro i σ H' hi ⟨v2, rfl, B1, h1⟩
      have e0 : (0 : Int) + (i : Int) = (i : Int) := Int.zero_add _
      rw [e0]
      obtain ⟨o, ho, eo⟩ := B1.din on i
      refine ⟨_, rfl, _, rfl, B1.fS T on rfl T.n_Strip_faults ⟨_, o, rfl, ho, _, rfl, ?_⟩⟩
      rw [eo]
      cases hf : m.fl i with
      | none =>
        refine ⟨_, rfl, B1, fun j hj => ?_⟩
        by_cases e : j = i
        · rw [e]
          exact hf
        · exact h1 j (by omega)
      | some s =>
        obtain ⟨dx, fs, p1, p2, p3⟩ := B1.setCut on
        have B2 := p3 i ⟨s, hf⟩
        refine ⟨_, rfl, _, rfl, _, _, dx, fs, rfl, p1, T.cl_Strip, T.n_Strip_cut, p2, ?_⟩
        obtain ⟨dx', fs', q1, q2, q3⟩ := B2.setWidth on
        refine ⟨_, rfl, B2.fS T on (v := .int (i : Int)) rfl T.n_Strip_cut ⟨rfl, _, rfl, iteN (fun c => ?_) (fun c => by cases c)⟩⟩
        refine ⟨_, rfl, B2.fS T on (v := .int (i : Int)) rfl T.n_Strip_cut ⟨_, rfl, _, _, dx', fs', rfl, q1, T.cl_Strip, T.n_Strip_width, q2, ?_⟩⟩
        exact kF i hi (by rw [hf]; rfl) h1 _ (q3 i (Nat.le_of_lt hi))
    · rintro σ H' ⟨v2, rfl, B1, h1⟩
      refine ⟨_, rfl, B1.fS T on (v := onv m.cut) rfl T.n_Strip_cut ⟨rfl, _, rfl, ?_⟩⟩
      cases hcut : m.cut with
      | none => exact iteNS rfl (kN h1 H' B1)
      | some c =>
        refine iteN (fun _ => ?_) (fun c => by cases c)
        obtain ⟨dx', fs', q1, q2, q3⟩ := B1.setWidth on
        have e := hc c hcut
        refine ⟨_, rfl, B1.fS T on (v := .int (c : Int)) (by show some (onv m.cut) = _; rw [hcut]; rfl) T.n_Strip_cut ⟨_, rfl, _, _, dx', fs', rfl, q1, T.cl_Strip, T.n_Strip_width, q2, ?_⟩⟩
        have B2 := q3 c (Nat.le_of_eq e)
        rw [e] at B2 ⊢
        exact kN h1 _ B2
theorem cal_trim_strip {P : Program} {w : World} {K : PySem.W.Frag} {mg : Str → Option Value} {base : Heap} (T : Txt w K mg) : Cal P w K mg base 1 "trim_strip" ["bench"] (sp_trim_strip K) := ⟨_, _, ok_trim_strip T, T.g_trim_strip, T.f_trim_strip.kp, T.f_trim_strip.bindsN (ps := ["bench"]) fun _ _ _ _ _ _ us hl => match us, hl with | [_], _ => rfl⟩
def sp_stop_refusal (K : PySem.W.Frag) : Sp := fun vs H Q _ => ∃ (H0 : Hp) (ad : Ro → Addr) (m : MS) (sa : Addr) (n : Int), vs = [.ref (ad .bench), .ref sa] ∧ BA K H0 ad m H ∧ m.on = true ∧ H0 sa = some (.tup [.str "stop", .int n]) ∧
  (m.cut = none → Q .non H) ∧
  (∀ c f, m.cut = some c → m.fl c = some f → ∀ p H', H p = none → Same H H' → H' p = some (.tup [.int n, .int (((m.base : Nat) : Int) + ((c : Nat) : Int)), .str f]) → Q (.ref p) H')
theorem sc_stop_refusal : FnScope ["bench", "step", "now"] ["bench", "step"] (defScope s_stop_refusal) := ⟨rfl, rfl, rfl, by decide +kernel, rfl, by decide +kernel, by decide +kernel⟩
theorem ok_stop_refusal {P : Program} {w : World} {K : PySem.W.Frag} {mg : Str → Option Value} {base : Heap} (T : Txt w K mg) : FnOk P w K mg base CX0 1 (ad_stop_refusal K) (fdOf K (ad_stop_refusal K)) ["bench", "step"] (sp_stop_refusal K) := by
  refine T.f_stop_refusal.ok sc_stop_refusal (fun vs H Q E h => ?_) (fun cdv A outer s H vs Q E hr h => ?_)
  · obtain ⟨_, _, _, _, _, rfl, _⟩ := h
    rfl
  · have hu := hu_of hr
    have nd := sc_stop_refusal.nd
    refine ⟨_, PSs.nox ((pss_cons (ps_set (i := 2) nd rfl (Or.inl rfl) (pe_fld (pv 0) rfl))
      (pss_cons (ps_if (pt_cmpR op_isN (pe_fld (pv 2) rfl) pe_non (nomark _))
      (pss_one (ps_ret pe_non))
      pss_nil)
      (pss_one (ps_ret (pe_tup (pa_cons (pe_ix ix_tup (pv 1) pe_int (fun _ _ => rfl)) (pa_cons (pe_op op_add (pe_fld (pv 2) rfl) (pe_fld (pv 2) rfl)) (pa_cons (pe_dget hu (pe_fld (pv 2) rfl) (pe_fld (pv 2) rfl) (fun _ _ => rfl)) pa_nil))))))))), ?_⟩
    obtain ⟨H0, ad, m, sa, n, rfl, B, on, hs, kN, kS⟩ := h
    refine ⟨_, rfl, B.now T on ⟨_, rfl, B.fS T on (v := onv m.cut) rfl T.n_Strip_cut ⟨rfl, _, rfl, ?_⟩⟩⟩
    cases hcut : m.cut with
    | none => exact iteDT rfl (kN hcut)
    | some c =>
      refine iteDF (by intro q; cases q) ?_
      obtain ⟨f, hf⟩ := B.wf.cutf c hcut
      have lk : List.lookup ("cut" : Str) (stripF ad m) = some (.int (c : Int)) := by
        show some (onv m.cut) = _
        rw [hcut]
        rfl
      refine ⟨_, rfl, _, _, _, _, rfl, rfl, B.tup hs, atI_of (j := 1) rfl rfl, ?_⟩
      refine ⟨_, rfl, B.fS T on rfl T.n_Strip_base ⟨_, rfl, B.fS T on lk T.n_Strip_cut ⟨_, _, rfl, rfl, _, rfl, B.fS T on rfl T.n_Strip_faults ⟨_, rfl, B.fS T on lk T.n_Strip_cut ⟨_, _, rfl, B.dget on hf, ?_⟩⟩⟩⟩⟩
      exact ⟨by show 3 ≤ sizeLine; decide, fun p hp => kS c f hcut hf p _ hp (same_new hp) upd_same⟩
theorem cal_stop_refusal {P : Program} {w : World} {K : PySem.W.Frag} {mg : Str → Option Value} {base : Heap} (T : Txt w K mg) : Cal P w K mg base 1 "stop_refusal" ["bench", "step"] (sp_stop_refusal K) := ⟨_, _, ok_stop_refusal T, T.g_stop_refusal, T.f_stop_refusal.kp, T.f_stop_refusal.bindsN (ps := ["bench", "step"]) fun _ _ _ _ _ _ us hl => match us, hl with | [_, _], _ => rfl⟩
def sp_save_lanes (K : PySem.W.Frag) : Sp := fun vs H Q _ => ∃ (H0 : Hp) (ad : Ro → Addr) (m : MS) (sa : Addr) (sl p md : Nat), vs = [.ref (ad .bench), .ref sa] ∧ BA K H0 ad m H ∧ m.on = true ∧ H0 sa = some (.tup [.str "save", .int sl, .int p, .int md]) ∧ sl < 60 ∧ p < 8 / m.g ∧ md < 16 ∧ m.tn + 400 < 10000000 ∧
  ∀ (s' : Nat → Nat → Int) (t' : Nat) (H' : Hp), (∀ x j, s' x j = if x = sl ∧ m.act md j = true then m.sn p j else m.sl x j) → t' ≤ m.tn + 400 → BA K H0 ad { m with sl := s', tn := t' } H' → Q .non H'
theorem sc_save_lanes : FnScope ["bench", "step", "lane"] ["bench", "step"] (defScope s_save_lanes) := ⟨rfl, rfl, rfl, by decide +kernel, rfl, by decide +kernel, by decide +kernel⟩
theorem ok_save_lanes {P : Program} {w : World} {K : PySem.W.Frag} {mg : Str → Option Value} {base : Heap} (T : Txt w K mg) : FnOk P w K mg base CX0 3 (ad_save_lanes K) (fdOf K (ad_save_lanes K)) ["bench", "step"] (sp_save_lanes K) := by
  have C_active_lanes := cal_active_lanes (P := P) (base := base) T
  have C_write_slot := cal_write_slot (P := P) (base := base) T
  have C_seat_number := cal_seat_number (P := P) (base := base) T
  refine T.f_save_lanes.ok sc_save_lanes (fun vs H Q E h => ?_) (fun cdv A outer s H vs Q E hr h => ?_)
  · obtain ⟨_, _, _, _, _, _, _, rfl, _⟩ := h
    rfl
  · have hu := hu_of hr
    have nd := sc_save_lanes.nd
    refine ⟨_, PSs.nox ((pss_one (ps_for PassesOwn.never rfl (pi_list (pe_cl C_active_lanes (hr.mono (by decide)) (pa_cons (pv 0) (pa_cons (pe_ix ix_tup (pv 1) pe_int (fun _ _ => rfl)) pa_nil)))) (pg_name (i := 2) nd rfl (Or.inl rfl))
      (pss_one (ps_expr (pe_cl C_write_slot (hr.mono (by decide)) (pa_cons (pv 0) (pa_cons (pe_ix ix_tup (pv 1) pe_int (fun _ _ => rfl)) (pa_cons (pv 2) (pa_cons (pe_cl C_seat_number (hr.mono (by decide)) (pa_cons (pv 0) (pa_cons (pe_ix ix_tup (pv 1) pe_int (fun _ _ => rfl)) (pa_cons (pv 2) pa_nil)))) pa_nil)))))))))), ?_⟩
    obtain ⟨H0, ad, m, sa, sl, p, md, rfl, B, on, hs, hsl, hp, hmd, ht, kQ⟩ := h
    have wf := B.wf
    refine ⟨_, rfl, _, rfl, _, _, _, _, rfl, rfl, B.tup hs, atI_of (j := 3) rfl rfl, H0, ad, m, md, rfl, B, on, hmd, fun l H1 hl s1 h1 => ?_⟩
    have B1 := B.sm s1
    have hof : offH ad m.on H1 l = some _ := B.out_new hl s1 h1
    have hs' := B1.back _ _ hs
    refine ⟨l, rfl, ⟨_, SqL.of h1⟩, for_list (K := K) (a := l) (xs := (m.actL md).map fun (j : Nat) => V.int (j : Int)) (fun i σ H' => ∃ (v2 : Option V) (s' : Nat → Nat → Int) (t' : Nat), σ = [some (.ref (ad .bench)), some (.ref sa), v2] ∧ BA K (offH ad m.on H1) ad { m with sl := s', tn := t' } H' ∧ t' ≤ m.tn + i ∧ (∀ x j, s' x j = if x = sl ∧ j ∈ (m.actL md).take i then m.sn p j else m.sl x j))
      ⟨none, m.sl, m.tn, rfl, B1.rebase, Nat.le_refl _, fun x j => by simp⟩ (fun i σ H' _ ⟨_, _, _, _, B2, _⟩ => SqL.of (B2.same _ _ hof)) ?_ ?_⟩
    · rintro i y σ H' hi ⟨v2, s', t', rfl, B2, ht', hf⟩
      obtain ⟨j, hj, rfl⟩ := il_get hi
      have hja : m.act md j = true := mem_actL.mp (List.mem_of_getElem? hj)
      have hjw := act_lt hja
      have hjg : j < m.g * m.lanes := Nat.lt_of_lt_of_le hjw wf.wd
      have hil : i < 256 := Nat.lt_of_lt_of_le (List.getElem?_eq_some_iff.mp hj).1 (actL_len wf md)
      refine ⟨_, rfl, _, rfl, _, _, _, _, rfl, rfl, B2.tup hs', atI_of (j := 1) rfl rfl, _, rfl, ?_⟩
      refine ⟨_, rfl, _, rfl, _, _, _, _, rfl, rfl, B2.tup hs', atI_of (j := 2) rfl rfl, _, rfl, _, ad, _, p, j, rfl, B2, on, hp, hjg, ?_⟩
      refine ⟨_, ad, _, sl, j, m.sn p j, rfl, B2, hsl, Nat.lt_of_lt_of_le hjw wf.w4, (by show t' < 10000000; omega), wf.snk p j, fun H4 B4 => ?_⟩
      refine ⟨_, _, _, rfl, B4, by show t' + 1 ≤ _; omega, fun x z => ?_⟩
      rw [take_snoc hj]
      show upd2 s' sl j (m.sn p j) x z = _
      unfold upd2
      by_cases e : x = sl ∧ z = j
      · rw [if_pos e, e.2, if_pos ⟨e.1, by simp⟩]
      · rw [if_neg e, hf x z]
        by_cases e1 : x = sl
        · have e2 : z ≠ j := fun q => e ⟨e1, q⟩
          simp [e1, e2]
        · simp [e1]
    · rintro σ H' ⟨v2, s', t', rfl, B2, ht', hf⟩
      rw [List.length_map] at ht' hf
      have hl256 := actL_len wf md
      refine kQ s' t' H' (fun x j => ?_) (by omega) (B2.weaken B1.back)
      rw [hf x j, List.take_length]
      simp only [mem_actL]
theorem cal_save_lanes {P : Program} {w : World} {K : PySem.W.Frag} {mg : Str → Option Value} {base : Heap} (T : Txt w K mg) : Cal P w K mg base 3 "save_lanes" ["bench", "step"] (sp_save_lanes K) := ⟨_, _, ok_save_lanes T, T.g_save_lanes, T.f_save_lanes.kp, T.f_save_lanes.bindsN (ps := ["bench", "step"]) fun _ _ _ _ _ _ us hl => match us, hl with | [_, _], _ => rfl⟩
def sp_store_lanes (K : PySem.W.Frag) : Sp := fun vs H Q _ => ∃ (H0 : Hp) (ad : Ro → Addr) (m : MS) (sa : Addr) (row n p md : Nat), vs = [.ref (ad .bench), .ref sa] ∧ BA K H0 ad m H ∧ m.on = true ∧ H0 sa = some (.tup [.str "store", .int row, .int p, .int md]) ∧ m.len[row]? = some n ∧ m.base + m.width ≤ n ∧ p < 8 / m.g ∧ md < 16 ∧ m.tn + 400 < 10000000 ∧
  ∀ (r' : Nat → Nat → Int) (t' : Nat) (H' : Hp), r' = (m.actL md).foldl (fun rc j => upd2 rc row (m.base + j) (m.sn p j)) m.rc → t' ≤ m.tn + 400 → BA K H0 ad { m with rc := r', tn := t' } H' → Q .non H'
theorem sc_store_lanes : FnScope ["bench", "step", "lane"] ["bench", "step"] (defScope s_store_lanes) := ⟨rfl, rfl, rfl, by decide +kernel, rfl, by decide +kernel, by decide +kernel⟩
theorem ok_store_lanes {P : Program} {w : World} {K : PySem.W.Frag} {mg : Str → Option Value} {base : Heap} (T : Txt w K mg) : FnOk P w K mg base CX0 3 (ad_store_lanes K) (fdOf K (ad_store_lanes K)) ["bench", "step"] (sp_store_lanes K) := by
  have C_active_lanes := cal_active_lanes (P := P) (base := base) T
  have C_write_cell := cal_write_cell (P := P) (base := base) T
  have C_seat_number := cal_seat_number (P := P) (base := base) T
  refine T.f_store_lanes.ok sc_store_lanes (fun vs H Q E h => ?_) (fun cdv A outer s H vs Q E hr h => ?_)
  · obtain ⟨_, _, _, _, _, _, _, _, rfl, _⟩ := h
    rfl
  · have hu := hu_of hr
    have nd := sc_store_lanes.nd
    refine ⟨_, PSs.nox ((pss_one (ps_for PassesOwn.never rfl (pi_list (pe_cl C_active_lanes (hr.mono (by decide)) (pa_cons (pv 0) (pa_cons (pe_ix ix_tup (pv 1) pe_int (fun _ _ => rfl)) pa_nil)))) (pg_name (i := 2) nd rfl (Or.inl rfl))
      (pss_one (ps_expr (pe_cl C_write_cell (hr.mono (by decide)) (pa_cons (pv 0) (pa_cons (pe_ix ix_tup (pv 1) pe_int (fun _ _ => rfl)) (pa_cons (pe_op op_add (pe_fld (pe_fld (pv 0) rfl) rfl) (pv 2)) (pa_cons (pe_cl C_seat_number (hr.mono (by decide)) (pa_cons (pv 0) (pa_cons (pe_ix ix_tup (pv 1) pe_int (fun _ _ => rfl)) (pa_cons (pv 2) pa_nil)))) pa_nil)))))))))), ?_⟩
    obtain ⟨H0, ad, m, sa, row, n, p, md, rfl, B, on, hs, hrow, hbw, hp, hmd, ht, kQ⟩ := h
    have wf := B.wf
    refine ⟨_, rfl, _, rfl, _, _, _, _, rfl, rfl, B.tup hs, atI_of (j := 3) rfl rfl, H0, ad, m, md, rfl, B, on, hmd, fun l H1 hl s1 h1 => ?_⟩
    have B1 := B.sm s1
    have hof : offH ad m.on H1 l = some _ := B.out_new hl s1 h1
    have hs' := B1.back _ _ hs
    refine ⟨l, rfl, ⟨_, SqL.of h1⟩, for_list (K := K) (a := l) (xs := (m.actL md).map fun (j : Nat) => V.int (j : Int)) (fun i σ H' => ∃ (v2 : Option V) (r' : Nat → Nat → Int) (t' : Nat), σ = [some (.ref (ad .bench)), some (.ref sa), v2] ∧ BA K (offH ad m.on H1) ad { m with rc := r', tn := t' } H' ∧ t' ≤ m.tn + i ∧ r' = ((m.actL md).take i).foldl (fun rc j => upd2 rc row (m.base + j) (m.sn p j)) m.rc)
      ⟨none, m.rc, m.tn, rfl, B1.rebase, Nat.le_refl _, rfl⟩ (fun i σ H' _ ⟨_, _, _, _, B2, _⟩ => SqL.of (B2.same _ _ hof)) ?_ ?_⟩
    · rintro i y σ H' hi ⟨v2, r', t', rfl, B2, ht', hf⟩
      obtain ⟨j, hj, rfl⟩ := il_get hi
      have hja : m.act md j = true := mem_actL.mp (List.mem_of_getElem? hj)
      have hjw := act_lt hja
      have hjg : j < m.g * m.lanes := Nat.lt_of_lt_of_le hjw wf.wd
      have hil : i < 256 := Nat.lt_of_lt_of_le (List.getElem?_eq_some_iff.mp hj).1 (actL_len wf md)
      refine ⟨_, rfl, _, rfl, _, _, _, _, rfl, rfl, B2.tup hs', atI_of (j := 1) rfl rfl, ?_⟩
      refine ⟨_, rfl, B2.now T on (B2.fS T on rfl T.n_Strip_base ⟨_, rfl, _, _, rfl, rfl, ?_⟩)⟩
      refine ⟨_, rfl, _, rfl, _, _, _, _, rfl, rfl, B2.tup hs', atI_of (j := 2) rfl rfl, _, rfl, _, ad, _, p, j, rfl, B2, on, hp, hjg, ?_⟩
      refine ⟨_, ad, _, row, m.base + j, n, m.sn p j, by show [_, _, V.int ((m.base : Int) + (j : Int)), _] = [_, _, V.int ((m.base + j : Nat) : Int), _]; push_cast; rfl, B2, hrow, by omega, (by show t' < 10000000; omega), wf.snk p j, fun H4 B4 => ?_⟩
      refine ⟨_, _, _, rfl, B4, by show t' + 1 ≤ _; omega, ?_⟩
      rw [take_snoc hj, List.foldl_append, ← hf]
      rfl
    · rintro σ H' ⟨v2, r', t', rfl, B2, ht', hf⟩
      rw [List.length_map] at ht' hf
      have hl256 := actL_len wf md
      rw [List.take_length] at hf
      exact kQ r' t' H' hf (by omega) (B2.weaken B1.back)
theorem cal_store_lanes {P : Program} {w : World} {K : PySem.W.Frag} {mg : Str → Option Value} {base : Heap} (T : Txt w K mg) : Cal P w K mg base 3 "store_lanes" ["bench", "step"] (sp_store_lanes K) := ⟨_, _, ok_store_lanes T, T.g_store_lanes, T.f_store_lanes.kp, T.f_store_lanes.bindsN (ps := ["bench", "step"]) fun _ _ _ _ _ _ us hl => match us, hl with | [_, _], _ => rfl⟩
def sp_put_lanes (K : PySem.W.Frag) : Sp := fun vs H Q _ => ∃ (H0 : Hp) (ad : Ro → Addr) (m : MS) (sa : Addr) (row n q p md : Nat), vs = [.ref (ad .bench), .ref sa] ∧ BA K H0 ad m H ∧ m.on = true ∧ H0 sa = some (.tup [.str "put", .int row, .int q, .int p, .int md]) ∧ m.len[row]? = some n ∧ q < 8 / m.g ∧ p < 8 / m.g ∧ md < 16 ∧ m.tn + 400 < 10000000 ∧ (∀ j, m.act md j = true → 0 ≤ m.sn q j ∧ m.sn q j < n) ∧
  ∀ (r' : Nat → Nat → Int) (t' : Nat) (H' : Hp), r' = (m.actL md).foldl (fun rc j => upd2 rc row (m.sn q j).toNat (m.sn p j)) m.rc → t' ≤ m.tn + 400 → BA K H0 ad { m with rc := r', tn := t' } H' → Q .non H'
theorem sc_put_lanes : FnScope ["bench", "step", "lane"] ["bench", "step"] (defScope s_put_lanes) := ⟨rfl, rfl, rfl, by decide +kernel, rfl, by decide +kernel, by decide +kernel⟩
theorem ok_put_lanes {P : Program} {w : World} {K : PySem.W.Frag} {mg : Str → Option Value} {base : Heap} (T : Txt w K mg) : FnOk P w K mg base CX0 3 (ad_put_lanes K) (fdOf K (ad_put_lanes K)) ["bench", "step"] (sp_put_lanes K) := by
  have C_active_lanes := cal_active_lanes (P := P) (base := base) T
  have C_write_cell := cal_write_cell (P := P) (base := base) T
  have C_seat_number := cal_seat_number (P := P) (base := base) T
  refine T.f_put_lanes.ok sc_put_lanes (fun vs H Q E h => ?_) (fun cdv A outer s H vs Q E hr h => ?_)
  · obtain ⟨_, _, _, _, _, _, _, _, _, rfl, _⟩ := h
    rfl
  · have hu := hu_of hr
    have nd := sc_put_lanes.nd
    refine ⟨_, PSs.nox ((pss_one (ps_for PassesOwn.never rfl (pi_list (pe_cl C_active_lanes (hr.mono (by decide)) (pa_cons (pv 0) (pa_cons (pe_ix ix_tup (pv 1) pe_int (fun _ _ => rfl)) pa_nil)))) (pg_name (i := 2) nd rfl (Or.inl rfl))
      (pss_one (ps_expr (pe_cl C_write_cell (hr.mono (by decide)) (pa_cons (pv 0) (pa_cons (pe_ix ix_tup (pv 1) pe_int (fun _ _ => rfl)) (pa_cons (pe_cl C_seat_number (hr.mono (by decide)) (pa_cons (pv 0) (pa_cons (pe_ix ix_tup (pv 1) pe_int (fun _ _ => rfl)) (pa_cons (pv 2) pa_nil)))) (pa_cons (pe_cl C_seat_number (hr.mono (by decide)) (pa_cons (pv 0) (pa_cons (pe_ix ix_tup (pv 1) pe_int (fun _ _ => rfl)) (pa_cons (pv 2) pa_nil)))) pa_nil)))))))))), ?_⟩
    obtain ⟨H0, ad, m, sa, row, n, q, p, md, rfl, B, on, hs, hrow, hq, hp, hmd, ht, hin, kQ⟩ := h
    have wf := B.wf
    refine ⟨_, rfl, _, rfl, _, _, _, _, rfl, rfl, B.tup hs, atI_of (j := 4) rfl rfl, H0, ad, m, md, rfl, B, on, hmd, fun l H1 hl s1 h1 => ?_⟩
    have B1 := B.sm s1
    have hof : offH ad m.on H1 l = some _ := B.out_new hl s1 h1
    have hs' := B1.back _ _ hs
    refine ⟨l, rfl, ⟨_, SqL.of h1⟩, for_list (K := K) (a := l) (xs := (m.actL md).map fun (j : Nat) => V.int (j : Int)) (fun i σ H' => ∃ (v2 : Option V) (r' : Nat → Nat → Int) (t' : Nat), σ = [some (.ref (ad .bench)), some (.ref sa), v2] ∧ BA K (offH ad m.on H1) ad { m with rc := r', tn := t' } H' ∧ t' ≤ m.tn + i ∧ r' = ((m.actL md).take i).foldl (fun rc j => upd2 rc row (m.sn q j).toNat (m.sn p j)) m.rc)
      ⟨none, m.rc, m.tn, rfl, B1.rebase, Nat.le_refl _, rfl⟩ (fun i σ H' _ ⟨_, _, _, _, B2, _⟩ => SqL.of (B2.same _ _ hof)) ?_ ?_⟩
    · rintro i y σ H' hi ⟨v2, r', t', rfl, B2, ht', hf⟩
      obtain ⟨j, hj, rfl⟩ := il_get hi
      have hja : m.act md j = true := mem_actL.mp (List.mem_of_getElem? hj)
      have hjw := act_lt hja
      have hjg : j < m.g * m.lanes := Nat.lt_of_lt_of_le hjw wf.wd
      have hil : i < 256 := Nat.lt_of_lt_of_le (List.getElem?_eq_some_iff.mp hj).1 (actL_len wf md)
      obtain ⟨b1, b2⟩ := hin j hja
      refine ⟨_, rfl, _, rfl, _, _, _, _, rfl, rfl, B2.tup hs', atI_of (j := 1) rfl rfl, ?_⟩
      refine ⟨_, rfl, _, rfl, _, _, _, _, rfl, rfl, B2.tup hs', atI_of (j := 2) rfl rfl, _, rfl, _, ad, _, q, j, rfl, B2, on, hq, hjg, ?_⟩
      refine ⟨_, rfl, _, rfl, _, _, _, _, rfl, rfl, B2.tup hs', atI_of (j := 3) rfl rfl, _, rfl, _, ad, _, p, j, rfl, B2, on, hp, hjg, ?_⟩
      refine ⟨_, ad, _, row, (m.sn q j).toNat, n, m.sn p j, by rw [Int.toNat_of_nonneg b1]; rfl, B2, hrow, by omega, (by show t' < 10000000; omega), wf.snk p j, fun H4 B4 => ?_⟩
      refine ⟨_, _, _, rfl, B4, by show t' + 1 ≤ _; omega, ?_⟩
      rw [take_snoc hj, List.foldl_append, ← hf]
      rfl
    · rintro σ H' ⟨v2, r', t', rfl, B2, ht', hf⟩
      rw [List.length_map] at ht' hf
      have hl256 := actL_len wf md
      rw [List.take_length] at hf
      exact kQ r' t' H' hf (by omega) (B2.weaken B1.back)
theorem cal_put_lanes {P : Program} {w : World} {K : PySem.W.Frag} {mg : Str → Option Value} {base : Heap} (T : Txt w K mg) : Cal P w K mg base 3 "put_lanes" ["bench", "step"] (sp_put_lanes K) := ⟨_, _, ok_put_lanes T, T.g_put_lanes, T.f_put_lanes.kp, T.f_put_lanes.bindsN (ps := ["bench", "step"]) fun _ _ _ _ _ _ us hl => match us, hl with | [_, _], _ => rfl⟩
end Rb
end

section
set_option Elab.async false
set_option linter.all false
set_option maxRecDepth 100000
set_option maxHeartbeats 4000000
namespace Rb
open PySem PySem.Spec PyProof.Rows L2

theorem nums_len (m : MS) (wf : m.WF) (k p : Nat) : ((m.actL k).map (m.sn p)).length ≤ 256 := by
  rw [List.length_map]
  exact actL_len wf k
theorem upd2_self (f : Nat → Nat → Int) (a b : Nat) : upd2 f a b (f a b) = f := by
  funext x y
  unfold upd2
  split
  · rename_i h
    rw [h.1, h.2]
  · rfl
theorem free_of {s : Str} (h : Fold9 s) (c : decide (s ≠ "chain" ∧ s ≠ "capped") = true) : FreeF s := by
  have c' := of_decide_eq_true c
  exact h.free c'.1 c'.2
def sp_fold_lanes (K : PySem.W.Frag) : Sp := fun vs H Q _ => ∃ (H0 : Hp) (ad : Ro → Addr) (m : MS) (sa : Addr) (row n : Nat) (f : Str) (p md : Nat), vs = [.ref (ad .bench), .ref sa] ∧ BA K H0 ad m H ∧ m.on = true ∧ H0 sa = some (.tup [.str "fold", .int row, .str f, .int p, .int md]) ∧ m.len[row]? = some n ∧ 0 < n ∧ Fold9 f ∧ p < 8 / m.g ∧ md < 16 ∧ m.tn + 400 < 10000000 ∧
  ∀ (t' : Nat) (H' : Hp), t' ≤ m.tn + 400 → BA K H0 ad { m with rc := upd2 m.rc row 0 (((m.actL md).map (m.sn p)).foldl (jn f) (m.rc row 0)), tn := t' } H' → Q .non H'
theorem sc_fold_lanes : FnScope ["bench", "step", "fold", "numbers", "run", "number", "lane"] ["bench", "step"] (defScope s_fold_lanes) := ⟨rfl, rfl, rfl, by decide +kernel, rfl, by decide +kernel, by decide +kernel⟩
theorem ok_fold_lanes {P : Program} {w : World} {K : PySem.W.Frag} {mg : Str → Option Value} {base : Heap} (T : Txt w K mg) : FnOk P w K mg base CX0 6 (ad_fold_lanes K) (fdOf K (ad_fold_lanes K)) ["bench", "step"] (sp_fold_lanes K) := by
  have C_write_cell := cal_write_cell (P := P) (base := base) T
  have C_free := cal_free (P := P) (base := base) T
  have C_joined := cal_joined (P := P) (base := base) T
  have C_cut_join := cal_cut_join (P := P) (base := base) T
  have C_read_cell := cal_read_cell (P := P) (base := base) T
  have C_active_lanes := cal_active_lanes (P := P) (base := base) T
  have C_seat_number := cal_seat_number (P := P) (base := base) T
  refine T.f_fold_lanes.ok sc_fold_lanes (fun vs H Q E h => ?_) (fun cdv A outer s H vs Q E hr h => ?_)
  · obtain ⟨_, _, _, _, _, _, _, _, _, rfl, _⟩ := h
    rfl
  · have hu := hu_of hr
    have nd := sc_fold_lanes.nd
    refine ⟨_, PSs.nox ((pss_cons (ps_set (i := 2) nd rfl (Or.inl rfl) (pe_ix ix_tup (pv 1) pe_int (fun _ _ => rfl)))
      (pss_cons (ps_setLc (i := 3) (own := [("lane", 6)]) (g := gName 6) rfl nd rfl rfl (sw_true rfl rfl rfl (by decide +kernel)) (pi_list (pe_cl C_active_lanes (hr.mono (by decide)) (pa_cons (pv 0) (pa_cons (pe_ix ix_tup (pv 1) pe_int (fun _ _ => rfl)) pa_nil)))) (blkOk_by (N := ["bench", "step", "fold", "numbers", "run", "number", "lane"]) (sc := defScope s_fold_lanes) (by decide +kernel)) (fun _ _ _ _ _ => pg_name (i := 6) nd rfl (Or.inl rfl)) (fun _ _ _ _ _ => pts_nil) (fun _ _ _ _ _ => (pe_cl C_seat_number (hr.mono (by decide)) (pa_cons (pv 0) (pa_cons (pe_ix (ixTK K) (pv 1) pe_int (fun _ _ => rfl)) (pa_cons (pv 6) pa_nil))))))
      (pss_one (ps_if (pt_cmpR op_gt (pe_callB call_len_seq rfl T.b_len PySem.boot_len (pa_cons (pv 3) pa_nil)) pe_int (nomark _))
      (pss_cons (ps_set (i := 4) nd rfl (Or.inl rfl) (pe_cl C_read_cell (hr.mono (by decide)) (pa_cons (pv 0) (pa_cons (pe_ix ix_tup (pv 1) pe_int (fun _ _ => rfl)) (pa_cons pe_int pa_nil)))))
      (pss_cons (ps_if (pt_val (pe_cl C_free (hr.mono (by decide)) (pa_cons (pv 2) pa_nil)))
      (pss_one (ps_set (i := 4) nd rfl (Or.inl rfl) (pe_cl C_joined (hr.mono (by decide)) (pa_cons (pv 2) (pa_cons (pv 4) (pa_cons (pe_cl C_cut_join (hr.mono (by decide)) (pa_cons (pv 2) (pa_cons (pv 3) (pa_cons (pe_fld (pv 0) rfl) pa_nil)))) pa_nil))))))
      (pss_one (ps_for PassesOwn.never rfl (pi_list (pv 3)) (pg_name (i := 5) nd rfl (Or.inl rfl))
      (pss_one (ps_set (i := 4) nd rfl (Or.inl rfl) (pe_cl C_joined (hr.mono (by decide)) (pa_cons (pv 2) (pa_cons (pv 4) (pa_cons (pv 5) pa_nil)))))))))
      (pss_one (ps_expr (pe_cl C_write_cell (hr.mono (by decide)) (pa_cons (pv 0) (pa_cons (pe_ix ix_tup (pv 1) pe_int (fun _ _ => rfl)) (pa_cons pe_int (pa_cons (pv 4) pa_nil)))))))))
      pss_nil))))), ?_⟩
    obtain ⟨H0, ad, m, sa, row, n, f, p, md, rfl, B, on, hs, hrow, hn, hF, hp, hmd, ht, kQ⟩ := h
    have wf := B.wf
    have hsT := B.tup hs
    refine ⟨_, rfl, _, _, _, _, rfl, rfl, hsT, atI_of (j := 2) rfl rfl, ?_⟩
    refine ⟨_, rfl, _, rfl, _, _, _, _, rfl, rfl, hsT, atI_of (j := 4) rfl rfl, H0, ad, m, md, rfl, B, on, hmd, fun l H1 hl s1 h1 => ?_⟩
    have B1 := B.sm s1
    refine ⟨l, rfl, ⟨_, SqL.of h1⟩, fun D hD => ?_⟩
    refine comp_list (K := K) hD (SqL.of h1) (fun y => match y with | .int j => .int (m.sn p j.toNat) | v => v) (fun _ => true) (by rw [List.length_map]; have := actL_len wf md; omega) (fun x H2 _ _ Q' q => yes_ok q) (fun y H2 hy _ s2 Q' q => ?_) (fun H2 s2 h2 => ?_)
    · obtain ⟨j, hj, rfl⟩ := List.mem_map.mp hy
      have hja := mem_actL.mp hj
      have hjg : j < m.g * m.lanes := Nat.lt_of_lt_of_le (act_lt hja) wf.wd
      have B2 := B1.sm s2
      exact ⟨_, rfl, _, rfl, _, _, _, _, rfl, rfl, B2.tup hs, atI_of (j := 3) rfl rfl, _, rfl, H0, ad, m, p, j, rfl, B2, on, hp, hjg, q _ (Same.refl _)⟩
    have e2 : ((((m.actL md).map fun (j : Nat) => V.int (j : Int)).filter fun _ => true).map fun y => match y with | .int j => V.int (m.sn p j.toNat) | v => v) = ((m.actL md).map (m.sn p)).map V.int := by
      rw [List.filter_eq_self.mpr (fun _ _ => rfl), List.map_map, List.map_map]
      refine List.map_congr_left fun j _ => ?_
      show V.int (m.sn p ((j : Int).toNat)) = V.int (m.sn p j)
      rw [Int.toNat_natCast]
    rw [e2] at h2
    generalize hN : (m.actL md).map (m.sn p) = xs at *
    have hxl : xs.length ≤ 256 := by rw [← hN]; exact nums_len m wf md p
    have hxk : ∀ x ∈ xs, KR x := by
      intro x hx
      rw [← hN] at hx
      obtain ⟨j, _, e⟩ := List.mem_map.mp hx
      rw [← e]
      exact wf.snk p j
    have B2 := B1.sm s2
    refine ⟨_, rfl, D, _, rfl, .inl (SqL.of h2), _, _, rfl, rfl, _, rfl, ?_⟩
    rw [List.length_map]
    refine iteD (fun c => ?_) (fun c => ?_)
    · have hne : xs ≠ [] := fun z => by rw [z] at c; exact absurd c (by decide)
      have hoD : offH ad m.on H2 D = some _ := B1.out_new hD s2 h2
      have hs2 := B2.back _ _ hs
      refine ⟨_, rfl, _, rfl, _, _, _, _, rfl, rfl, B2.tup hs, atI_of (j := 1) rfl rfl, _, ad, m, row, 0, n, rfl, B2.rebase, hrow, hn, by omega, fun H3 B3 => ?_⟩
      have h3 := B3.same _ _ hoD
      have hrk : KR (m.rc row 0) := wf.rck row 0
      have hjk : KR (xs.foldl (jn f) (m.rc row 0)) := by
        have go : ∀ (r : List Int) (x : Int), KR x → (∀ y ∈ r, KR y) → KR (r.foldl (jn f) x) := by
          intro r
          induction r with
          | nil => intro x hx _; exact hx
          | cons y r ih => intro x hx hr; exact ih _ (jn_kr hF hx (hr y (by simp))) fun z hz => hr z (by simp [hz])
        exact go xs _ hrk hxk
      have fin : ∀ (H4 : Hp) (v5 v6 : Option V) (D2 : Ends), BA K (offH ad m.on H2) ad { m with tn := m.tn + 1 } H4 → (∀ σ H', (∃ t' : Nat, t' ≤ m.tn + 400 ∧ BA K H0 ad { m with rc := upd2 m.rc row 0 (xs.foldl (jn f) (m.rc row 0)), tn := t' } H') → D2.nx σ H') →
          tDrop (tCall (sp_write_cell K) [] E0 (tCons (tVar 0) (tCons (tOp (rIxT K) (tVar 1) (tC (.int 1))) (tCons (tC (.int 0)) (tCons (tVar 4) tNil))))) D2 [some (.ref (ad .bench)), some (.ref sa), some (.str f), some (.ref D), some (.int (xs.foldl (jn f) (m.rc row 0))), v5, v6] H4 := by
        intro H4 v5 v6 D2 B4 hD2
        refine ⟨_, rfl, _, rfl, _, _, _, _, rfl, rfl, B4.tup hs2, atI_of (j := 1) rfl rfl, _, rfl, _, ad, _, row, 0, n, _, rfl, B4, hrow, hn, (by show m.tn + 1 < 10000000; omega), hjk, fun H5 B5 => ?_⟩
        exact hD2 _ _ ⟨m.tn + 1 + 1, by omega, B5.weaken B2.back⟩
      refine ⟨_, rfl, f, rfl, _, rfl, ?_⟩
      cases hfr : decide (f ≠ "chain" ∧ f ≠ "capped") with
      | true =>
        have hfree := free_of hF hfr
        obtain ⟨g, hg, hBn⟩ := B3.at1 (r := .bench) rfl
        refine ⟨_, rfl, _, rfl, _, rfl, _, rfl, _, rfl, B3.fB T (fun _ => rfl) T.n_Bench_picks ⟨_, ad, _, D, f, xs, rfl, B3, SqL.of h3, hfree, hne, by omega, hxk, fun H4 B4 => ?_⟩⟩
        refine ⟨f, _, _, rfl, hF, hrk, fold1_kr hF hxk, ?_⟩
        have e3 := foldl_fold1 hfree (m.rc row 0) hne
        rw [← e3]
        exact fin H4 _ _ _ B4 fun σ H' ⟨t', a, b⟩ => kQ t' H' a b
      | false =>
        refine ⟨_, rfl, D, rfl, ⟨_, SqL.of h3⟩, for_list (K := K) (a := D) (xs := xs.map V.int) (fun i σ H' => ∃ (v5 v6 : Option V), σ = [some (.ref (ad .bench)), some (.ref sa), some (.str f), some (.ref D), some (.int ((xs.take i).foldl (jn f) (m.rc row 0))), v5, v6] ∧ KR ((xs.take i).foldl (jn f) (m.rc row 0)) ∧ BA K (offH ad m.on H2) ad { m with tn := m.tn + 1 } H')
          ⟨_, _, rfl, hrk, B3⟩ (fun i σ H' _ ⟨_, _, _, _, B4⟩ => SqL.of (B4.same _ _ hoD)) ?_ ?_⟩
        · rintro i y σ H' hi ⟨v5, v6, rfl, hkr, B4⟩
          obtain ⟨x, hx, rfl⟩ : ∃ x, xs[i]? = some x ∧ y = V.int x := by
            rw [List.getElem?_map] at hi
            cases e : xs[i]? with
            | none => rw [e] at hi; cases hi
            | some u => rw [e] at hi; exact ⟨u, rfl, (Option.some.inj hi).symm⟩
          have hxx := hxk x (List.mem_of_getElem? hx)
          have e4 : (xs.take (i + 1)).foldl (jn f) (m.rc row 0) = jn f ((xs.take i).foldl (jn f) (m.rc row 0)) x := by
            rw [take_snoc hx, List.foldl_append]
            rfl
          refine ⟨_, rfl, _, rfl, _, rfl, f, _, _, rfl, hF, hkr, hxx, ?_⟩
          refine ⟨some (.int x), v6, ?_, ?_, B4⟩
          · rw [e4]
            rfl
          · rw [e4]
            exact jn_kr hF hkr hxx
        · rintro σ H' ⟨v5, v6, rfl, hkr, B4⟩
          rw [List.length_map, List.take_length]
          exact fin H' _ _ _ B4 fun σ H' ⟨t', a, b⟩ => kQ t' H' a b
    · have hne : xs = [] := List.eq_nil_of_length_eq_zero (by omega)
      subst hne
      refine kQ m.tn H2 (by omega) ?_
      show BA K H0 ad { m with rc := upd2 m.rc row 0 (m.rc row 0), tn := m.tn } H2
      rw [upd2_self]
      exact B2
theorem cal_fold_lanes {P : Program} {w : World} {K : PySem.W.Frag} {mg : Str → Option Value} {base : Heap} (T : Txt w K mg) : Cal P w K mg base 6 "fold_lanes" ["bench", "step"] (sp_fold_lanes K) := ⟨_, _, ok_fold_lanes T, T.g_fold_lanes, T.f_fold_lanes.kp, T.f_fold_lanes.bindsN (ps := ["bench", "step"]) fun _ _ _ _ _ _ us hl => match us, hl with | [_, _], _ => rfl⟩
end Rb
end

section
set_option Elab.async false
set_option linter.all false
set_option maxRecDepth 100000
set_option maxHeartbeats 4000000
namespace Rb
open PySem PySem.Spec PyProof.Rows L2

theorem runsOf_get {s : Str} : ∀ {xs : List Int} {c : Option Int} {i : Nat} {x : Int}, xs[i]? = some x → (runsOf s c xs)[i]? = some (stepR s (endR s c (xs.take i)) x)
  | [], _, _, _, h => by simp at h
  | y :: r, none, 0, x, h => by
    have e : y = x := by simpa using h
    subst e
    rfl
  | y :: r, some c, 0, x, h => by
    have e : y = x := by simpa using h
    subst e
    rfl
  | y :: r, none, i + 1, x, h => runsOf_get (xs := r) (c := some y) (i := i) (x := x) (by simpa using h)
  | y :: r, some c, i + 1, x, h => runsOf_get (xs := r) (c := some (jn s c y)) (i := i) (x := x) (by simpa using h)
def sp_running_lanes (K : PySem.W.Frag) : Sp := fun vs H Q _ => ∃ (H0 : Hp) (ad : Ro → Addr) (m : MS) (sa : Addr) (row n : Nat) (f : Str) (p md : Nat), vs = [.ref (ad .bench), .ref sa] ∧ BA K H0 ad m H ∧ m.on = true ∧ H0 sa = some (.tup [.str "running", .int row, .str f, .int p, .int md]) ∧ m.len[row]? = some n ∧ m.base + m.width ≤ n ∧ Fold9 f ∧ p < 8 / m.g ∧ md < 16 ∧ m.tn + 400 < 10000000 ∧
  ∀ (r' : Nat → Nat → Int) (t' : Nat) (H' : Hp), r' = ((m.actL md).zip (runsOf f m.car ((m.actL md).map (m.sn p)))).foldl (fun rc (q : Nat × Int) => upd2 rc row (m.base + q.1) q.2) m.rc → t' ≤ m.tn + 400 → BA K H0 ad { m with rc := r', car := endR f m.car ((m.actL md).map (m.sn p)), tn := t' } H' → Q .non H'
theorem sc_running_lanes : FnScope ["bench", "step", "lanes", "numbers", "lane", "runs", "run"] ["bench", "step"] (defScope s_running_lanes) := ⟨rfl, rfl, rfl, by decide +kernel, rfl, by decide +kernel, by decide +kernel⟩
theorem ok_running_lanes {P : Program} {w : World} {K : PySem.W.Frag} {mg : Str → Option Value} {base : Heap} (T : Txt w K mg) : FnOk P w K mg base CX0 7 (ad_running_lanes K) (fdOf K (ad_running_lanes K)) ["bench", "step"] (sp_running_lanes K) := by
  have C_write_cell := cal_write_cell (P := P) (base := base) T
  have C_free := cal_free (P := P) (base := base) T
  have C_runs_at_once := cal_runs_at_once (P := P) (base := base) T
  have C_runs_in_order := cal_runs_in_order (P := P) (base := base) T
  have C_seat_number := cal_seat_number (P := P) (base := base) T
  have C_active_lanes := cal_active_lanes (P := P) (base := base) T
  refine T.f_running_lanes.ok sc_running_lanes (fun vs H Q E h => ?_) (fun cdv A outer s H vs Q E hr h => ?_)
  · obtain ⟨_, _, _, _, _, _, _, _, _, rfl, _⟩ := h
    rfl
  · have hu := hu_of hr
    have nd := sc_running_lanes.nd
    refine ⟨_, PSs.nox ((pss_cons (ps_set (i := 2) nd rfl (Or.inl rfl) (pe_cl C_active_lanes (hr.mono (by decide)) (pa_cons (pv 0) (pa_cons (pe_ix ix_tup (pv 1) pe_int (fun _ _ => rfl)) pa_nil))))
      (pss_cons (ps_setLc (i := 3) (own := [("lane", 4)]) (g := gName 4) rfl nd rfl rfl (sw_true rfl rfl rfl (by decide +kernel)) (pi_list (pv 2)) (blkOk_by (N := ["bench", "step", "lanes", "numbers", "lane", "runs", "run"]) (sc := defScope s_running_lanes) (by decide +kernel)) (fun _ _ _ _ _ => pg_name (i := 4) nd rfl (Or.inl rfl)) (fun _ _ _ _ _ => pts_nil) (fun _ _ _ _ _ => (pe_cl C_seat_number (hr.mono (by decide)) (pa_cons (pv 0) (pa_cons (pe_ix (ixTK K) (pv 1) pe_int (fun _ _ => rfl)) (pa_cons (pv 4) pa_nil))))))
      (pss_cons (ps_if (pt_val (pe_cl C_free (hr.mono (by decide)) (pa_cons (pe_ix ix_tup (pv 1) pe_int (fun _ _ => rfl)) pa_nil)))
      (pss_one (ps_set (i := 5) nd rfl (Or.inl rfl) (pe_cl C_runs_at_once (hr.mono (by decide)) (pa_cons (pe_ix ix_tup (pv 1) pe_int (fun _ _ => rfl)) (pa_cons (pv 3) (pa_cons (pe_fld (pv 0) rfl) pa_nil))))))
      (pss_one (ps_set (i := 5) nd rfl (Or.inl rfl) (pe_cl C_runs_in_order (hr.mono (by decide)) (pa_cons (pe_ix ix_tup (pv 1) pe_int (fun _ _ => rfl)) (pa_cons (pv 3) (pa_cons (pe_fld (pv 0) rfl) pa_nil)))))))
      (pss_one (ps_for PassesOwn.never rfl (pi_zip rfl T.b_zip (pa_cons (pv 2) (pa_cons (pv 5) pa_nil))) (pg_tup rfl (pgs_cons (pg_name (i := 4) nd rfl (Or.inl rfl)) (pgs_cons (pg_name (i := 6) nd rfl (Or.inl rfl)) pgs_nil)))
      (pss_cons (ps_expr (pe_cl C_write_cell (hr.mono (by decide)) (pa_cons (pv 0) (pa_cons (pe_ix ix_tup (pv 1) pe_int (fun _ _ => rfl)) (pa_cons (pe_op op_add (pe_fld (pe_fld (pv 0) rfl) rfl) (pv 4)) (pa_cons (pv 6) pa_nil))))))
      (pss_one (ps_fld (pv 0) (pv 6) rfl))))))))), ?_⟩
    obtain ⟨H0, ad, m, sa, row, n, f, p, md, rfl, B, on, hs, hrow, hbw, hF, hp, hmd, ht, kQ⟩ := h
    have wf := B.wf
    have hsT := B.tup hs
    refine ⟨_, rfl, _, rfl, _, _, _, _, rfl, rfl, hsT, atI_of (j := 4) rfl rfl, H0, ad, m, md, rfl, B, on, hmd, fun l H1 hl s1 h1 => ?_⟩
    have B1 := B.sm s1
    refine ⟨_, rfl, l, rfl, ⟨_, SqL.of h1⟩, fun D hD => ?_⟩
    refine comp_list (K := K) hD (SqL.of h1) (fun y => match y with | .int j => .int (m.sn p j.toNat) | v => v) (fun _ => true) (by rw [List.length_map]; have := actL_len wf md; omega) (fun x H2 _ _ Q' q => yes_ok q) (fun y H2 hy _ s2 Q' q => ?_) (fun H2 s2 h2 => ?_)
    · obtain ⟨j, hj, rfl⟩ := List.mem_map.mp hy
      have hja := mem_actL.mp hj
      have hjg : j < m.g * m.lanes := Nat.lt_of_lt_of_le (act_lt hja) wf.wd
      have B2 := B1.sm s2
      exact ⟨_, rfl, _, rfl, _, _, _, _, rfl, rfl, B2.tup hs, atI_of (j := 3) rfl rfl, _, rfl, H0, ad, m, p, j, rfl, B2, on, hp, hjg, q _ (Same.refl _)⟩
    have e2 : ((((m.actL md).map fun (j : Nat) => V.int (j : Int)).filter fun _ => true).map fun y => match y with | .int j => V.int (m.sn p j.toNat) | v => v) = ((m.actL md).map (m.sn p)).map V.int := by
      rw [List.filter_eq_self.mpr (fun _ _ => rfl), List.map_map, List.map_map]
      refine List.map_congr_left fun j _ => ?_
      show V.int (m.sn p ((j : Int).toNat)) = V.int (m.sn p j)
      rw [Int.toNat_natCast]
    rw [e2] at h2
    have hL1 := actL_len wf md
    have hxl : ((m.actL md).map (m.sn p)).length = (m.actL md).length := List.length_map ..
    generalize hN : (m.actL md).map (m.sn p) = xs at *
    have hxk : ∀ x ∈ xs, KR x := by
      intro x hx
      rw [← hN] at hx
      obtain ⟨j, _, e⟩ := List.mem_map.mp hx
      rw [← e]
      exact wf.snk p j
    have B2 := B1.sm s2
    have hl2 := s2 _ _ h1
    have hlen : (runsOf f m.car xs).length = xs.length := runsOf_len f xs m.car
    have hrk := runsOf_kr hF xs m.car hxk wf.cark
    -- the loop that writes them
    have rest : ∀ (R : Addr) (H3 : Hp) (v4 v6 : Option V) (D2 : Ends), H2 R = none → Same H2 H3 → H3 R = some (.lst ((runsOf f m.car xs).map V.int)) → (∀ σ H', (∃ (r' : Nat → Nat → Int) (t' : Nat), r' = ((m.actL md).zip (runsOf f m.car xs)).foldl (fun rc (q : Nat × Int) => upd2 rc row (m.base + q.1) q.2) m.rc ∧ t' ≤ m.tn + 400 ∧ BA K H0 ad { m with rc := r', car := endR f m.car xs, tn := t' } H') → D2.nx σ H') →
        tFor (iZip K (tCons (tVar 2) (tCons (tVar 5) tNil))) (gTup K 2 (gCons (gName 4) (gCons (gName 6) gNil))) (tSeq (tDrop (tCall (sp_write_cell K) [] E0 (tCons (tVar 0) (tCons (tOp (rIxT K) (tVar 1) (tC (.int 1))) (tCons (tOp (rI0 fun i j => .int (i + j)) (tFld K (tFld K (tVar 0) "now") "base") (tVar 4)) (tCons (tVar 6) tNil)))))) (sFld K (tVar 0) (tVar 6) "carried"))
          D2 [some (.ref (ad .bench)), some (.ref sa), some (.ref l), some (.ref D), v4, some (.ref R), v6] H3 := by
      intro R H3 v4 v6 D2 hR s3 h3 hD2
      have B3 := B2.sm s3
      have hl3 := s3 _ _ hl2
      have hol : offH ad m.on H3 l = some _ := B.out_new hl (s1.trans (s2.trans s3)) hl3
      have hoR : offH ad m.on H3 R = some _ := B2.out_new hR s3 h3
      have hs3 := B3.back _ _ hs
      refine ⟨_, rfl, _, rfl, l, R, _, _, rfl, SqL.of hl3, SqL.of h3, ?_⟩
      refine RZ.for_zipL (K := K) (xs := (m.actL md).map fun (j : Nat) => V.int (j : Int)) (ys := (runsOf f m.car xs).map V.int) (by rw [List.length_map, List.length_map, hlen, hxl]) (fun i σ H' => ∃ (v4 v6 : Option V) (r' : Nat → Nat → Int) (t' : Nat), σ = [some (.ref (ad .bench)), some (.ref sa), some (.ref l), some (.ref D), v4, some (.ref R), v6] ∧ r' = (((m.actL md).zip (runsOf f m.car xs)).take i).foldl (fun rc (q : Nat × Int) => upd2 rc row (m.base + q.1) q.2) m.rc ∧ t' ≤ m.tn + i ∧ BA K (offH ad m.on H3) ad { m with rc := r', car := endR f m.car (xs.take i), tn := t' } H')
        ⟨v4, v6, m.rc, m.tn, rfl, rfl, Nat.le_refl _, B3.rebase⟩ (fun i σ H' ⟨_, _, _, _, _, _, _, B4⟩ => ⟨SqL.of (B4.same _ _ hol), SqL.of (B4.same _ _ hoR)⟩) ?_ ?_
      · rintro i x y Tp σ H' hx hy ⟨v4, v6, r', t', rfl, hr', ht', B4⟩ hTp
        obtain ⟨j, hj, rfl⟩ := il_get hx
        have hja : m.act md j = true := mem_actL.mp (List.mem_of_getElem? hj)
        have hjw := act_lt hja
        have hil : i < 256 := Nat.lt_of_lt_of_le (List.getElem?_eq_some_iff.mp hj).1 hL1
        obtain ⟨u, hu, rfl⟩ : ∃ u, (runsOf f m.car xs)[i]? = some u ∧ y = V.int u := by
          rw [List.getElem?_map] at hy
          cases e : (runsOf f m.car xs)[i]? with
          | none => rw [e] at hy; cases hy
          | some u => rw [e] at hy; exact ⟨u, rfl, (Option.some.inj hy).symm⟩
        have hix : i < xs.length := by rw [← hlen]; exact (List.getElem?_eq_some_iff.mp hu).1
        have hxi : xs[i]? = some xs[i] := List.getElem?_eq_getElem hix
        have hu2 := runsOf_get (s := f) (c := m.car) hxi
        have eu : u = stepR f (endR f m.car (xs.take i)) xs[i] := by
          rw [hu] at hu2
          exact Option.some.inj hu2
        have huk : KR u := hrk u (List.mem_of_getElem? hu)
        have B5 := B4.sm (same_new (o := .tup [V.int (j : Int), V.int u]) hTp)
        have e1 : (m.base : Int) + (j : Int) = ((m.base + j : Nat) : Int) := by push_cast; rfl
        refine ⟨Tp, _, rfl, SqT.of upd_same, rfl, _, _, rfl, _, _, rfl, rfl, ?_⟩
        refine ⟨_, rfl, _, rfl, _, _, _, _, rfl, rfl, B5.tup hs3, atI_of (j := 1) rfl rfl, ?_⟩
        refine ⟨_, rfl, B5.now T on (B5.fS T on rfl T.n_Strip_base ⟨_, rfl, _, _, rfl, rfl, ?_⟩)⟩
        refine ⟨_, rfl, _, ad, _, row, m.base + j, n, u, ?_, B5, hrow, by omega, (by show t' < 10000000; omega), huk, fun H6 B6 => ?_⟩
        · show [_, _, V.int ((m.base : Int) + (j : Int)), _] = [_, _, V.int ((m.base + j : Nat) : Int), _]
          rw [e1]
        obtain ⟨dx, fs, q1, q2, q3⟩ := B6.setCar
        refine ⟨_, rfl, _, rfl, _, _, dx, fs, rfl, q1, T.cl_Bench, T.n_Bench_carried, q2, ?_⟩
        refine ⟨some (.int (j : Int)), some (.int u), upd2 r' row (m.base + j) u, t' + 1, rfl, ?_, by omega, ?_⟩
        · have hz : ((m.actL md).zip (runsOf f m.car xs))[i]? = some (j, u) := by
            exact List.getElem?_zip_eq_some.mpr ⟨hj, hu⟩
          rw [take_snoc hz, List.foldl_append, ← hr']
          rfl
        · rw [take_snoc hxi, endR_snoc, ← eu]
          exact q3 (some u) fun z e => by cases e; exact huk
      · rintro σ H' ⟨v4, v6, r', t', rfl, hr', ht', B4⟩
        rw [List.length_map] at hr' ht' B4
        have e1 : ((m.actL md).zip (runsOf f m.car xs)).take (m.actL md).length = (m.actL md).zip (runsOf f m.car xs) := List.take_of_length_le (by rw [List.length_zip]; omega)
        have e2 : xs.take (m.actL md).length = xs := List.take_of_length_le (by omega)
        rw [e1] at hr'
        rw [e2] at B4
        exact hD2 _ H' ⟨r', t', hr', by omega, B4.weaken B3.back⟩
    have last : ∀ (σ : L2.St) H', (∃ (r' : Nat → Nat → Int) (t' : Nat), r' = ((m.actL md).zip (runsOf f m.car xs)).foldl (fun rc (q : Nat × Int) => upd2 rc row (m.base + q.1) q.2) m.rc ∧ t' ≤ m.tn + 400 ∧ BA K H0 ad { m with rc := r', car := endR f m.car xs, tn := t' } H') → Q .non H' := fun σ H' ⟨r', t', a, b, c⟩ => kQ r' t' H' a b c
    refine ⟨_, rfl, _, _, _, _, rfl, rfl, B2.tup hs, atI_of (j := 2) rfl rfl, f, rfl, _, rfl, ?_⟩
    cases hfr : decide (f ≠ "chain" ∧ f ≠ "capped") with
    | true =>
      have hfree := free_of hF hfr
      refine ⟨_, rfl, _, _, _, _, rfl, rfl, B2.tup hs, atI_of (j := 2) rfl rfl, _, rfl, _, rfl, B2.fB T (fun _ => rfl) T.n_Bench_carried ⟨D, f, xs, m.car, rfl, SqL.of h2, hfree, by omega, hxk, wf.cark, fun R H3 hR s3 h3 => ?_⟩⟩
      exact rest R H3 _ _ _ hR s3 h3 last
    | false =>
      refine ⟨_, rfl, _, _, _, _, rfl, rfl, B2.tup hs, atI_of (j := 2) rfl rfl, _, rfl, _, rfl, B2.fB T (fun _ => rfl) T.n_Bench_carried ⟨D, f, xs, m.car, rfl, SqL.of h2, hF, by omega, hxk, wf.cark, fun R H3 hR s3 h3 => ?_⟩⟩
      exact rest R H3 _ _ _ hR s3 h3 last
theorem cal_running_lanes {P : Program} {w : World} {K : PySem.W.Frag} {mg : Str → Option Value} {base : Heap} (T : Txt w K mg) : Cal P w K mg base 7 "running_lanes" ["bench", "step"] (sp_running_lanes K) := ⟨_, _, ok_running_lanes T, T.g_running_lanes, T.f_running_lanes.kp, T.f_running_lanes.bindsN (ps := ["bench", "step"]) fun _ _ _ _ _ _ us hl => match us, hl with | [_, _], _ => rfl⟩
end Rb
end

section
set_option Elab.async false
set_option linter.all false
set_option maxRecDepth 100000
set_option maxHeartbeats 4000000
namespace Rb
open PySem PySem.Spec PyProof.Rows L2

/-- the steps that the law's code has -/
inductive Stp where
  | number (p : Nat) (n : Int) (md : Nat)
  | here (p md : Nat)
  | load (p row md : Nat)
  | spread (p row md : Nat)
  | shift (p row : Nat) (by_ oth : Int) (md : Nat)
  | gather (p q row md : Nat)
  | op (p : Nat) (s : Str) (q r md : Nat)
  | pick (p q r k md : Nat)
  | copy (p q md : Nat)
  | bring (p s md : Nat)
  | choose (k p md : Nat)
  | other (k p md : Nat)
  | save (s p md : Nat)
  | reach (p : Nat) (n : Int) (md : Nat)
  | trim
  | store (row p md : Nat)
  | put (row q p md : Nat)
  | fold (row : Nat) (f : Str) (p md : Nat)
  | running (row : Nat) (f : Str) (p md : Nat)
  | stop (n : Int)
  | next
  | begin (many g : Nat)
def Stp.vals : Stp → List V
  | .number p n md => [.str "number", .int p, .int n, .int md]
  | .here p md => [.str "here", .int p, .int md]
  | .load p row md => [.str "load", .int p, .int row, .int md]
  | .spread p row md => [.str "spread", .int p, .int row, .int md]
  | .shift p row b o md => [.str "shift", .int p, .int row, .int b, .int o, .int md]
  | .gather p q row md => [.str "gather", .int p, .int q, .int row, .int md]
  | .op p s q r md => [.str "op", .int p, .str s, .int q, .int r, .int md]
  | .pick p q r k md => [.str "pick", .int p, .int q, .int r, .int k, .int md]
  | .copy p q md => [.str "copy", .int p, .int q, .int md]
  | .bring p s md => [.str "bring", .int p, .int s, .int md]
  | .choose k p md => [.str "choose", .int k, .int p, .int md]
  | .other k p md => [.str "other", .int k, .int p, .int md]
  | .save s p md => [.str "save", .int s, .int p, .int md]
  | .reach p n md => [.str "reach", .int p, .int n, .int md]
  | .trim => [.str "trim"]
  | .store row p md => [.str "store", .int row, .int p, .int md]
  | .put row q p md => [.str "put", .int row, .int q, .int p, .int md]
  | .fold row f p md => [.str "fold", .int row, .str f, .int p, .int md]
  | .running row f p md => [.str "running", .int row, .str f, .int p, .int md]
  | .stop n => [.str "stop", .int n]
  | .next => [.str "next"]
  | .begin many g => [.str "begin", .int many, .int g]
/-- the seat that a step of the ten lays, its mask -/
def Stp.seat : Stp → Nat
  | .number p _ _ => p
  | .here p _ => p
  | .load p _ _ => p
  | .spread p _ _ => p
  | .shift p _ _ _ _ => p
  | .gather p _ _ _ => p
  | .op p _ _ _ _ => p
  | .pick p _ _ _ _ => p
  | .copy p _ _ => p
  | .bring p _ _ => p
  | _ => 0
def Stp.mask : Stp → Nat
  | .number _ _ m => m
  | .here _ m => m
  | .load _ _ m => m
  | .spread _ _ m => m
  | .shift _ _ _ _ m => m
  | .gather _ _ _ m => m
  | .op _ _ _ _ m => m
  | .pick _ _ _ _ m => m
  | .copy _ _ m => m
  | .bring _ _ m => m
  | .choose _ _ m => m
  | .other _ _ m => m
  | .save _ _ m => m
  | .reach _ _ m => m
  | .store _ _ m => m
  | .put _ _ _ m => m
  | .fold _ _ _ m => m
  | .running _ _ _ m => m
  | _ => 0
def Stp.lays : Stp → Bool
  | .number _ _ _ => true
  | .here _ _ => true
  | .load _ _ _ => true
  | .spread _ _ _ => true
  | .shift _ _ _ _ _ => true
  | .gather _ _ _ _ => true
  | .op _ _ _ _ _ => true
  | .pick _ _ _ _ _ => true
  | .copy _ _ _ => true
  | .bring _ _ _ => true
  | _ => false
def MS.ln (m : MS) (row : Nat) : Nat := m.len.getD row 0
/-- what a step of the ten gets on a lane: the number, or the fault -/
def MS.got (m : MS) (j : Nat) : Stp → Int × Option Str
  | .number _ n _ => (n, none)
  | .here _ _ => (((m.base + j : Nat) : Int), none)
  | .load _ row _ => (m.rc row (m.base + j), none)
  | .spread _ row _ => (m.rc row 0, none)
  | .shift _ row b o _ => (if 0 ≤ ((m.base + j : Nat) : Int) + b ∧ ((m.base + j : Nat) : Int) + b < (m.ln row : Int) then m.rc row (((m.base + j : Nat) : Int) + b).toNat else o, none)
  | .gather _ q row _ => if 0 ≤ m.sn q j ∧ m.sn q j < (m.ln row : Int) then (m.rc row (m.sn q j).toNat, none) else (0, some "outside")
  | .op _ s q r _ => match sgn s (m.sn q j) (m.sn r j) with
    | some n => (n, none)
    | none => (0, some "nought")
  | .pick _ q r k _ => (if m.ma k j = true then m.sn q j else m.sn r j, none)
  | .copy _ q _ => (m.sn q j, none)
  | .bring _ s _ => (m.sl s j, none)
  | _ => (0, none)
theorem got_gather {m : MS} {j p q row md : Nat} : m.got j (.gather p q row md) = if 0 ≤ m.sn q j ∧ m.sn q j < (m.ln row : Int) then (m.rc row (m.sn q j).toNat, none) else (0, some ("outside" : Str)) := rfl
theorem got_op {m : MS} {j p q r md : Nat} {s : Str} : m.got j (.op p s q r md) = match sgn s (m.sn q j) (m.sn r j) with
    | some n => (n, none)
    | none => (0, some ("nought" : Str)) := rfl
/-- what is asked of a step of the ten -/
def MS.can (m : MS) : Stp → Prop
  | .number _ n _ => KR n
  | .here _ _ => True
  | .load _ row _ => row < 7 ∧ m.base + m.width ≤ m.ln row
  | .spread _ row _ => row < 7 ∧ 0 < m.ln row
  | .shift _ row b o _ => row < 7 ∧ KR o
  | .gather _ q row _ => q < 8 / m.g ∧ row < 7
  | .op _ s q r _ => q < 8 / m.g ∧ r < 8 / m.g
  | .pick _ q r k _ => q < 8 / m.g ∧ r < 8 / m.g ∧ k < 16
  | .copy _ q _ => q < 8 / m.g
  | .bring _ s _ => s < 60
  | _ => False
theorem MS.WF.row {m : MS} (wf : m.WF) {r : Nat} (h : r < 7) : m.len[r]? = some (m.ln r) := by
  unfold MS.ln
  rw [List.getD_eq_getElem?_getD, List.getElem?_eq_getElem (by rw [wf.len7]; exact h)]
  rfl
theorem MS.WF.lenV {m : MS} (wf : m.WF) {r : Nat} (h : r < 7) : (m.len.map fun (n : Nat) => V.int (n : Int))[r]? = some (V.int (m.ln r : Int)) := by
  rw [List.getElem?_map, wf.row h]
  rfl
def fv : Option Str → V
  | some s => .str s
  | none => .non
def Stp.word : Stp → Str
  | .number _ _ _ => "number"
  | .here _ _ => "here"
  | .load _ _ _ => "load"
  | .spread _ _ _ => "spread"
  | .shift _ _ _ _ _ => "shift"
  | .gather _ _ _ _ => "gather"
  | .op _ _ _ _ _ => "op"
  | .pick _ _ _ _ _ => "pick"
  | .copy _ _ _ => "copy"
  | .bring _ _ _ => "bring"
  | .choose _ _ _ => "choose"
  | .other _ _ _ => "other"
  | .save _ _ _ => "save"
  | .reach _ _ _ => "reach"
  | .trim => "trim"
  | .store _ _ _ => "store"
  | .put _ _ _ _ => "put"
  | .fold _ _ _ _ => "fold"
  | .running _ _ _ _ => "running"
  | .stop _ => "stop"
  | .next => "next"
  | .begin _ _ => "begin"
theorem Stp.at0 (st : Stp) : atI st.vals 0 = some (.str st.word) := by cases st <;> rfl
theorem Stp.is_spread {st : Stp} (h : st.word = "spread") : ∃ p row md, st = .spread p row md := by
  cases st <;> first | exact ⟨_, _, _, rfl⟩ | (simp only [Stp.word] at h; exact absurd h (by decide +kernel))
theorem Stp.at1 {st : Stp} (h : st.lays = true) : atI st.vals 1 = some (.int (st.seat : Int)) := by
  cases st <;> first | rfl | cases h
theorem Stp.atL {st : Stp} (h : st.lays = true) : atI st.vals (-1) = some (.int (st.mask : Int)) := by
  cases st <;> first | rfl | cases h
def sp_spread_read (K : PySem.W.Frag) : Sp := fun vs H Q _ => ∃ (H0 : Hp) (ad : Ro → Addr) (m : MS) (sa : Addr) (st : Stp), vs = [.ref (ad .bench), .ref sa] ∧ BA K H0 ad m H ∧ m.on = true ∧ H0 sa = some (.tup st.vals) ∧ m.can st ∧ st.mask < 16 ∧ m.tn + 1 < 10000000 ∧
  ∀ (v : Int) (t' : Nat) (H' : Hp), (∀ p row md, st = .spread p row md → (∃ j, m.act md j = true) → v = m.rc row 0) → t' ≤ m.tn + 1 → BA K H0 ad { m with tn := t' } H' → Q (.int v) H'
theorem sc_spread_read : FnScope ["bench", "step"] ["bench", "step"] (defScope s_spread_read) := ⟨rfl, rfl, rfl, by decide +kernel, rfl, by decide +kernel, by decide +kernel⟩
theorem ok_spread_read {P : Program} {w : World} {K : PySem.W.Frag} {mg : Str → Option Value} {base : Heap} (T : Txt w K mg) : FnOk P w K mg base CX0 3 (ad_spread_read K) (fdOf K (ad_spread_read K)) ["bench", "step"] (sp_spread_read K) := by
  have C_active_lanes := cal_active_lanes (P := P) (base := base) T
  have C_read_cell := cal_read_cell (P := P) (base := base) T
  refine T.f_spread_read.ok sc_spread_read (fun vs H Q E h => ?_) (fun cdv A outer s H vs Q E hr h => ?_)
  · obtain ⟨_, _, _, _, _, rfl, _⟩ := h
    rfl
  · have hu := hu_of hr
    have nd := sc_spread_read.nd
    refine ⟨_, PSs.nox ((pss_cons (ps_if (PW.pt (pw_and (pt_cmpR op_eq (pe_ix ix_tup (pv 1) pe_int (fun _ _ => rfl)) pe_str (nomark _)) (pw_and1 (pt_cmpR op_gt (pe_callB call_len_seq rfl T.b_len PySem.boot_len (pa_cons (pe_cl C_active_lanes (hr.mono (by decide)) (pa_cons (pv 0) (pa_cons (pe_ix ix_tup (pv 1) pe_int (fun _ _ => rfl)) pa_nil))) pa_nil)) pe_int (nomark _)))))
      (pss_one (ps_ret (pe_cl C_read_cell (hr.mono (by decide)) (pa_cons (pv 0) (pa_cons (pe_ix ix_tup (pv 1) pe_int (fun _ _ => rfl)) (pa_cons pe_int pa_nil))))))
      pss_nil)
      (pss_one (ps_ret pe_int)))), ?_⟩
    obtain ⟨H0, ad, m, sa, st, rfl, B, on, hs, hc, hm, ht, kQ⟩ := h
    have wf := B.wf
    refine ⟨_, rfl, _, _, _, _, rfl, rfl, B.tup hs, st.at0, rfl, _, rfl, iteS (fun c => ?_) (fun c => ?_)⟩
    · obtain ⟨p, row, md, rfl⟩ := Stp.is_spread c
      refine ⟨_, rfl, _, rfl, _, _, _, _, rfl, rfl, B.tup hs, atI_of (j := 3) rfl rfl, H0, ad, m, md, rfl, B, on, hm, fun l H1 hl s1 h1 => ?_⟩
      have B1 := B.sm s1
      refine ⟨l, _, rfl, .inl (SqL.of h1), _, _, rfl, rfl, _, rfl, ?_⟩
      rw [List.length_map]
      refine iteD (fun c2 => ?_) (fun c2 => ?_)
      · refine ⟨_, rfl, _, rfl, _, _, _, _, rfl, rfl, B1.tup hs, atI_of (j := 2) rfl rfl, H0, ad, m, row, 0, m.ln row, rfl, B1, wf.row hc.1, hc.2, by omega, fun H2 B2 => ?_⟩
        exact kQ _ _ H2 (fun p' row' md' e _ => by cases e; rfl) (Nat.le_refl _) B2
      · refine kQ 0 m.tn H1 (fun p' row' md' e ⟨j, hj⟩ => ?_) (by omega) B1
        cases e
        have := List.length_pos_of_mem (mem_actL.mpr hj)
        omega
    · refine kQ 0 m.tn H (fun p row md e _ => ?_) (by omega) B
      rw [e] at c
      exact (c rfl).elim
theorem cal_spread_read {P : Program} {w : World} {K : PySem.W.Frag} {mg : Str → Option Value} {base : Heap} (T : Txt w K mg) : Cal P w K mg base 3 "spread_read" ["bench", "step"] (sp_spread_read K) := ⟨_, _, ok_spread_read T, T.g_spread_read, T.f_spread_read.kp, T.f_spread_read.bindsN (ps := ["bench", "step"]) fun _ _ _ _ _ _ us hl => match us, hl with | [_, _], _ => rfl⟩
def sp_shift_got (K : PySem.W.Frag) : Sp := fun vs H Q _ => ∃ (H0 : Hp) (ad : Ro → Addr) (m : MS) (sa : Addr) (p row : Nat) (b o : Int) (md e_ t0 : Nat), vs = [.ref (ad .bench), .ref sa, .int e_] ∧ BA K H0 ad m H ∧ H0 sa = some (.tup (Stp.shift p row b o md).vals) ∧ row < 7 ∧ m.tn + 1 < 10000000 ∧
  ∀ (t' : Nat) (H' : Hp), t' ≤ m.tn + 1 → BA K H0 ad { m with tn := t' } H' → Q (.int (if 0 ≤ (e_ : Int) + b ∧ (e_ : Int) + b < (m.ln row : Int) then m.rc row ((e_ : Int) + b).toNat else o)) H'
theorem sc_shift_got : FnScope ["bench", "step", "element", "at"] ["bench", "step", "element"] (defScope s_shift_got) := ⟨rfl, rfl, rfl, by decide +kernel, rfl, by decide +kernel, by decide +kernel⟩
theorem ok_shift_got {P : Program} {w : World} {K : PySem.W.Frag} {mg : Str → Option Value} {base : Heap} (T : Txt w K mg) : FnOk P w K mg base CX0 3 (ad_shift_got K) (fdOf K (ad_shift_got K)) ["bench", "step", "element"] (sp_shift_got K) := by
  have C_read_cell := cal_read_cell (P := P) (base := base) T
  refine T.f_shift_got.ok sc_shift_got (fun vs H Q E h => ?_) (fun cdv A outer s H vs Q E hr h => ?_)
  · obtain ⟨_, _, _, _, _, _, _, _, _, _, _, rfl, _⟩ := h
    rfl
  · have hu := hu_of hr
    have nd := sc_shift_got.nd
    refine ⟨_, PSs.nox ((pss_cons (ps_set (i := 3) nd rfl (Or.inl rfl) (pe_op op_add (pv 2) (pe_ix ix_tup (pv 1) pe_int (fun _ _ => rfl))))
      (pss_cons (ps_if (pt_chain op_le op_lt pe_int (pv 3) (pe_ix ix_list (pe_fld (pv 0) rfl) (pe_ix ix_tup (pv 1) pe_int (fun _ _ => rfl)) (fun _ _ => rfl)))
      (pss_one (ps_ret (pe_cl C_read_cell (hr.mono (by decide)) (pa_cons (pv 0) (pa_cons (pe_ix ix_tup (pv 1) pe_int (fun _ _ => rfl)) (pa_cons (pv 3) pa_nil))))))
      pss_nil)
      (pss_one (ps_ret (pe_ix ix_tup (pv 1) pe_int (fun _ _ => rfl))))))), ?_⟩
    obtain ⟨H0, ad, m, sa, p, row, b, o, md, e_, t0, rfl, B, hs, hrow, ht, kQ⟩ := h
    have wf := B.wf
    have hL := B.lst (r := .lens) rfl (xs := _) fun _ => rfl
    refine ⟨_, rfl, _, rfl, _, _, _, _, rfl, rfl, B.tup hs, atI_of (j := 3) rfl rfl, _, _, rfl, rfl, ?_⟩
    refine ⟨_, rfl, _, _, rfl, rfl, _, rfl, iteD (fun c1 => ?_) (fun c1 => ?_)⟩
    · refine ⟨_, rfl, B.fB T (fun _ => rfl) T.n_Bench_lengths ⟨_, rfl, _, _, _, _, rfl, rfl, B.tup hs, atI_of (j := 2) rfl rfl, _, _, _, _, rfl, rfl, SqL.of hL, atI_of rfl (wf.lenV hrow), _, _, rfl, rfl, _, rfl, iteD (fun c2 => ?_) (fun c2 => ?_)⟩⟩
      · have h1 : (0 : Int) ≤ (e_ : Int) + b := c1
        have h2 : (e_ : Int) + b < (m.ln row : Int) := c2
        rw [if_pos ⟨h1, h2⟩] at kQ
        refine ⟨_, rfl, _, rfl, _, _, _, _, rfl, rfl, B.tup hs, atI_of (j := 2) rfl rfl, _, rfl, H0, ad, m, row, ((e_ : Int) + b).toNat, m.ln row, ?_, B, wf.row hrow, by omega, by omega, fun H2 B2 => kQ _ H2 (Nat.le_refl _) B2⟩
        show [_, _, V.int ((e_ : Int) + b)] = [_, _, V.int ((((e_ : Int) + b).toNat : Nat) : Int)]
        rw [Int.toNat_of_nonneg h1]
      · rw [if_neg (fun z => c2 z.2)] at kQ
        exact ⟨_, rfl, _, _, _, _, rfl, rfl, B.tup hs, atI_of (j := 4) rfl rfl, kQ m.tn H (by omega) B⟩
    · rw [if_neg (fun z => c1 z.1)] at kQ
      exact ⟨_, rfl, _, rfl, _, _, _, _, rfl, rfl, B.tup hs, atI_of (j := 4) rfl rfl, kQ m.tn H (by omega) B⟩
theorem cal_shift_got {P : Program} {w : World} {K : PySem.W.Frag} {mg : Str → Option Value} {base : Heap} (T : Txt w K mg) : Cal P w K mg base 3 "shift_got" ["bench", "step", "element"] (sp_shift_got K) := ⟨_, _, ok_shift_got T, T.g_shift_got, T.f_shift_got.kp, T.f_shift_got.bindsN (ps := ["bench", "step", "element"]) fun _ _ _ _ _ _ us hl => match us, hl with | [_, _, _], _ => rfl⟩
def sp_gather_got (K : PySem.W.Frag) : Sp := fun vs H Q _ => ∃ (H0 : Hp) (ad : Ro → Addr) (m : MS) (sa : Addr) (p q row md j : Nat), vs = [.ref (ad .bench), .ref sa, .int j] ∧ BA K H0 ad m H ∧ m.on = true ∧ H0 sa = some (.tup (Stp.gather p q row md).vals) ∧ q < 8 / m.g ∧ row < 7 ∧ j < m.g * m.lanes ∧ m.tn + 1 < 10000000 ∧
  ∀ (t' : Nat) (a : Addr) (H' : Hp), t' ≤ m.tn + 1 → BA K H0 ad { m with tn := t' } H' → H' a = some (.tup [.int (m.got j (.gather p q row md)).1, fv (m.got j (.gather p q row md)).2]) → Q (.ref a) H'
theorem sc_gather_got : FnScope ["bench", "step", "lane", "at"] ["bench", "step", "lane"] (defScope s_gather_got) := ⟨rfl, rfl, rfl, by decide +kernel, rfl, by decide +kernel, by decide +kernel⟩
theorem ok_gather_got {P : Program} {w : World} {K : PySem.W.Frag} {mg : Str → Option Value} {base : Heap} (T : Txt w K mg) : FnOk P w K mg base CX0 3 (ad_gather_got K) (fdOf K (ad_gather_got K)) ["bench", "step", "lane"] (sp_gather_got K) := by
  have C_read_cell := cal_read_cell (P := P) (base := base) T
  have C_seat_number := cal_seat_number (P := P) (base := base) T
  refine T.f_gather_got.ok sc_gather_got (fun vs H Q E h => ?_) (fun cdv A outer s H vs Q E hr h => ?_)
  · obtain ⟨_, _, _, _, _, _, _, _, _, rfl, _⟩ := h
    rfl
  · have hu := hu_of hr
    have nd := sc_gather_got.nd
    refine ⟨_, PSs.nox ((pss_cons (ps_set (i := 3) nd rfl (Or.inl rfl) (pe_cl C_seat_number (hr.mono (by decide)) (pa_cons (pv 0) (pa_cons (pe_ix ix_tup (pv 1) pe_int (fun _ _ => rfl)) (pa_cons (pv 2) pa_nil)))))
      (pss_cons (ps_if (pt_chain op_le op_lt pe_int (pv 3) (pe_ix ix_list (pe_fld (pv 0) rfl) (pe_ix ix_tup (pv 1) pe_int (fun _ _ => rfl)) (fun _ _ => rfl)))
      (pss_one (ps_ret (pe_tup (pa_cons (pe_cl C_read_cell (hr.mono (by decide)) (pa_cons (pv 0) (pa_cons (pe_ix ix_tup (pv 1) pe_int (fun _ _ => rfl)) (pa_cons (pv 3) pa_nil)))) (pa_cons pe_non pa_nil)))))
      pss_nil)
      (pss_one (ps_ret (pe_tup (pa_cons pe_int (pa_cons pe_str pa_nil)))))))), ?_⟩
    obtain ⟨H0, ad, m, sa, p, q, row, md, j, rfl, B, on, hs, hq, hrow, hj, ht, kQ⟩ := h
    have wf := B.wf
    have hL := B.lst (r := .lens) rfl (xs := _) fun _ => rfl
    refine ⟨_, rfl, _, rfl, _, _, _, _, rfl, rfl, B.tup hs, atI_of (j := 2) rfl rfl, _, rfl, H0, ad, m, q, j, rfl, B, on, hq, hj, ?_⟩
    have out : ¬ (0 ≤ m.sn q j ∧ m.sn q j < (m.ln row : Int)) → ∀ a, H a = none → Q (.ref a) (upd H a (.tup [.int 0, .str "outside"])) := fun hn a ha => by
      refine kQ m.tn a _ (by omega) (B.sm (same_new ha)) ?_
      rw [got_gather, if_neg hn]
      exact upd_same
    refine ⟨_, rfl, _, _, rfl, rfl, _, rfl, iteD (fun c1 => ?_) (fun c1 => ?_)⟩
    · refine ⟨_, rfl, B.fB T (fun _ => rfl) T.n_Bench_lengths ⟨_, rfl, _, _, _, _, rfl, rfl, B.tup hs, atI_of (j := 3) rfl rfl, _, _, _, _, rfl, rfl, SqL.of hL, atI_of rfl (wf.lenV hrow), _, _, rfl, rfl, _, rfl, iteD (fun c2 => ?_) (fun c2 => ?_)⟩⟩
      · have h1 : (0 : Int) ≤ m.sn q j := c1
        have h2 : m.sn q j < (m.ln row : Int) := c2
        refine ⟨_, rfl, _, rfl, _, _, _, _, rfl, rfl, B.tup hs, atI_of (j := 3) rfl rfl, _, rfl, H0, ad, m, row, (m.sn q j).toNat, m.ln row, ?_, B, wf.row hrow, by omega, by omega, fun H2 B2 => ?_⟩
        · show [_, _, V.int (m.sn q j)] = [_, _, V.int (((m.sn q j).toNat : Nat) : Int)]
          rw [Int.toNat_of_nonneg h1]
        refine ⟨by show 2 ≤ sizeLine; decide, fun a ha => kQ _ a _ (Nat.le_refl _) (B2.sm (same_new ha)) ?_⟩
        rw [got_gather, if_pos ⟨h1, h2⟩]
        exact upd_same
      · exact ⟨by show 2 ≤ sizeLine; decide, fun a ha => out (fun z => c2 z.2) a ha⟩
    · exact ⟨_, rfl, by show 2 ≤ sizeLine; decide, fun a ha => out (fun z => c1 z.1) a ha⟩
theorem cal_gather_got {P : Program} {w : World} {K : PySem.W.Frag} {mg : Str → Option Value} {base : Heap} (T : Txt w K mg) : Cal P w K mg base 3 "gather_got" ["bench", "step", "lane"] (sp_gather_got K) := ⟨_, _, ok_gather_got T, T.g_gather_got, T.f_gather_got.kp, T.f_gather_got.bindsN (ps := ["bench", "step", "lane"]) fun _ _ _ _ _ _ us hl => match us, hl with | [_, _, _], _ => rfl⟩
def sp_pick_got (K : PySem.W.Frag) : Sp := fun vs H Q _ => ∃ (H0 : Hp) (ad : Ro → Addr) (m : MS) (sa : Addr) (p q r k md j t0 : Nat), vs = [.ref (ad .bench), .ref sa, .int j] ∧ BA K H0 ad m H ∧ m.on = true ∧ H0 sa = some (.tup (Stp.pick p q r k md).vals) ∧ q < 8 / m.g ∧ r < 8 / m.g ∧ k < 16 ∧ j < m.g * m.lanes ∧
  Q (.int (if m.ma k j = true then m.sn q j else m.sn r j)) H
theorem sc_pick_got : FnScope ["bench", "step", "lane"] ["bench", "step", "lane"] (defScope s_pick_got) := ⟨rfl, rfl, rfl, by decide +kernel, rfl, by decide +kernel, by decide +kernel⟩
theorem ok_pick_got {P : Program} {w : World} {K : PySem.W.Frag} {mg : Str → Option Value} {base : Heap} (T : Txt w K mg) : FnOk P w K mg base CX0 3 (ad_pick_got K) (fdOf K (ad_pick_got K)) ["bench", "step", "lane"] (sp_pick_got K) := by
  have C_seat_number := cal_seat_number (P := P) (base := base) T
  refine T.f_pick_got.ok sc_pick_got (fun vs H Q E h => ?_) (fun cdv A outer s H vs Q E hr h => ?_)
  · obtain ⟨_, _, _, _, _, _, _, _, _, _, _, rfl, _⟩ := h
    rfl
  · have hu := hu_of hr
    have nd := sc_pick_got.nd
    refine ⟨_, PSs.nox ((pss_cons (ps_if (pt_val (pe_ix ix_list (pe_ix ix_list (pe_fld (pv 0) rfl) (pe_ix ix_tup (pv 1) pe_int (fun _ _ => rfl)) (fun _ _ => rfl)) (pv 2) (fun _ _ => rfl)))
      (pss_one (ps_ret (pe_cl C_seat_number (hr.mono (by decide)) (pa_cons (pv 0) (pa_cons (pe_ix ix_tup (pv 1) pe_int (fun _ _ => rfl)) (pa_cons (pv 2) pa_nil))))))
      pss_nil)
      (pss_one (ps_ret (pe_cl C_seat_number (hr.mono (by decide)) (pa_cons (pv 0) (pa_cons (pe_ix ix_tup (pv 1) pe_int (fun _ _ => rfl)) (pa_cons (pv 2) pa_nil)))))))), ?_⟩
    obtain ⟨H0, ad, m, sa, p, q, r, k, md, j, t0, rfl, B, on, hs, hq, hr1, hk, hj, kQ⟩ := h
    have wf := B.wf
    have hmL := B.lst (r := .masksL) rfl (xs := (List.range 16).map fun i => .ref (ad (.mask i))) fun _ => rfl
    have hm := B.lst (r := .mask k) (decide_eq_true hk) (xs := _) fun _ => rfl
    have hw := wf.w256
    refine ⟨_, rfl, B.fB T (fun _ => rfl) T.n_Bench_masks ⟨_, rfl, _, _, _, _, rfl, rfl, B.tup hs, atI_of (j := 4) rfl rfl, _, _, _, _, rfl, rfl, SqL.of hmL, atI_of rfl (rm_get hk), _, rfl, _, _, _, _, rfl, rfl, SqL.of hm, atI_of rfl (rm_get (by omega)), _, rfl, ?_⟩⟩
    cases hA : m.ma k j with
    | true =>
      rw [if_pos hA] at kQ
      exact ⟨_, rfl, _, rfl, _, _, _, _, rfl, rfl, B.tup hs, atI_of (j := 2) rfl rfl, _, rfl, H0, ad, m, q, j, rfl, B, on, hq, hj, kQ⟩
    | false =>
      rw [if_neg (by rw [hA]; decide)] at kQ
      exact ⟨_, rfl, _, rfl, _, _, _, _, rfl, rfl, B.tup hs, atI_of (j := 3) rfl rfl, _, rfl, H0, ad, m, r, j, rfl, B, on, hr1, hj, kQ⟩
theorem cal_pick_got {P : Program} {w : World} {K : PySem.W.Frag} {mg : Str → Option Value} {base : Heap} (T : Txt w K mg) : Cal P w K mg base 3 "pick_got" ["bench", "step", "lane"] (sp_pick_got K) := ⟨_, _, ok_pick_got T, T.g_pick_got, T.f_pick_got.kp, T.f_pick_got.bindsN (ps := ["bench", "step", "lane"]) fun _ _ _ _ _ _ us hl => match us, hl with | [_, _, _], _ => rfl⟩
end Rb
end

section
set_option Elab.async false
set_option linter.all false
set_option maxRecDepth 100000
set_option maxHeartbeats 4000000
namespace Rb
open PySem PySem.Spec PyProof.Rows L2

theorem wne {a b c : Str} (h : a = b) (hn : ¬ b = c) : ¬ V.str a = V.str c := fun z => hn (h.symm.trans (V.str.inj z))
def sp_op_got (K : PySem.W.Frag) : Sp := fun vs H Q _ => ∃ (H0 : Hp) (ad : Ro → Addr) (m : MS) (sa : Addr) (p : Nat) (sg : Str) (q r md j : Nat), vs = [.ref (ad .bench), .ref sa, .int j] ∧ BA K H0 ad m H ∧ m.on = true ∧ H0 sa = some (.tup (Stp.op p sg q r md).vals) ∧ q < 8 / m.g ∧ r < 8 / m.g ∧ j < m.g * m.lanes ∧
  ∀ (a : Addr) (H' : Hp), BA K H0 ad m H' → H' a = some (.tup [.int (m.got j (.op p sg q r md)).1, fv (m.got j (.op p sg q r md)).2]) → Q (.ref a) H'
theorem sc_op_got : FnScope ["bench", "step", "lane", "left", "right", "number", "fault"] ["bench", "step", "lane"] (defScope s_op_got) := ⟨rfl, rfl, rfl, by decide +kernel, rfl, by decide +kernel, by decide +kernel⟩
theorem ok_op_got {P : Program} {w : World} {K : PySem.W.Frag} {mg : Str → Option Value} {base : Heap} (T : Txt w K mg) : FnOk P w K mg base CX0 4 (ad_op_got K) (fdOf K (ad_op_got K)) ["bench", "step", "lane"] (sp_op_got K) := by
  have C_done := cal_done (P := P) (base := base) T
  have C_seat_number := cal_seat_number (P := P) (base := base) T
  refine T.f_op_got.ok sc_op_got (fun vs H Q E h => ?_) (fun cdv A outer s H vs Q E hr h => ?_)
  · obtain ⟨_, _, _, _, _, _, _, _, _, _, rfl, _⟩ := h
    rfl
  · have hu := hu_of hr
    have nd := sc_op_got.nd
    refine ⟨_, PSs.nox ((pss_cons (ps_set (i := 3) nd rfl (Or.inl rfl) (pe_cl C_seat_number (hr.mono (by decide)) (pa_cons (pv 0) (pa_cons (pe_ix ix_tup (pv 1) pe_int (fun _ _ => rfl)) (pa_cons (pv 2) pa_nil)))))
      (pss_cons (ps_set (i := 4) nd rfl (Or.inl rfl) (pe_cl C_seat_number (hr.mono (by decide)) (pa_cons (pv 0) (pa_cons (pe_ix ix_tup (pv 1) pe_int (fun _ _ => rfl)) (pa_cons (pv 2) pa_nil)))))
      (pss_cons (ps_set (i := 5) nd rfl (Or.inl rfl) pe_int)
      (pss_cons (ps_try_onlyE (tb := fun W => tAsg (tCallS (sp_done K) (WE W) (tCons (tOp (rIxT K) (tVar 1) (tC (.int 2))) (tCons (tVar 3) (tCons (tVar 4) tNil)))) (gName 5)) (ts := fun _ _ _ => tAsg (tC (.str "nought")) (gName 6)) (Wout := fun _ _ _ _ => False) (pss_one (ps_set (i := 6) nd rfl (Or.inl rfl) pe_non)) rfl rfl ⟨rfl, by decide, Or.inl T.g_ByNought⟩ takes0
        (fun W pn xe tk _ => pss_one (ps_set (i := 5) nd rfl (Or.inl rfl) (pe_callS C_done.ok (hr.mono (by decide)) rfl C_done.gm C_done.kp C_done.bd (fun σ => passAt tk σ) (pa_cons (pe_ix (ixTK K) (pv 1) pe_int (fun _ _ => rfl)) (pa_cons (pv 3) (pa_cons (pv 4) pa_nil)))))) (fun a oe cls d pn hz hf => pss_one (ps_set (i := 6) nd rfl (Or.inl rfl) pe_str)))
      (pss_one (ps_ret (pe_tup (pa_cons (pv 5) (pa_cons (pv 6) pa_nil)))))))))), ?_⟩
    obtain ⟨H0, ad, m, sa, p, sg, q, r, md, j, rfl, B, on, hs, hq, hr1, hj, kQ⟩ := h
    have wf := B.wf
    refine ⟨_, rfl, _, rfl, _, _, _, _, rfl, rfl, B.tup hs, atI_of (j := 3) rfl rfl, _, rfl, H0, ad, m, q, j, rfl, B, on, hq, hj, ?_⟩
    refine ⟨_, rfl, _, rfl, _, _, _, _, rfl, rfl, B.tup hs, atI_of (j := 4) rfl rfl, _, rfl, H0, ad, m, r, j, rfl, B, on, hr1, hj, ?_⟩
    refine ⟨_, rfl, _, _, _, _, rfl, rfl, B.tup hs, atI_of (j := 2) rfl rfl, _, rfl, _, rfl, sg, _, _, rfl, wf.snk _ _, wf.snk _ _, fun e => ?_, fun n e H' s1 => ?_⟩
    · refine ⟨true, exm_self T.nought.2.2.1 T.nought.2.2.2.2.1 T.nought.2.2.2.1 T.nought.2.2.2.2.2, fun _ a0 _ => ?_, fun q => Bool.noConfusion q⟩
      refine ⟨_, rfl, _, rfl, by show 2 ≤ sizeLine; decide, fun a ha => kQ a _ (B.sm (same_new ha)) ?_⟩
      rw [got_op, e]
      exact upd_same
    · have B1 := B.sm s1
      refine ⟨_, rfl, _, rfl, by show 2 ≤ sizeLine; decide, fun a ha => kQ a _ (B1.sm (same_new ha)) ?_⟩
      rw [got_op, e]
      exact upd_same
theorem cal_op_got {P : Program} {w : World} {K : PySem.W.Frag} {mg : Str → Option Value} {base : Heap} (T : Txt w K mg) : Cal P w K mg base 4 "op_got" ["bench", "step", "lane"] (sp_op_got K) := ⟨_, _, ok_op_got T, T.g_op_got, T.f_op_got.kp, T.f_op_got.bindsN (ps := ["bench", "step", "lane"]) fun _ _ _ _ _ _ us hl => match us, hl with | [_, _, _], _ => rfl⟩
def sp_lane_got (K : PySem.W.Frag) : Sp := fun vs H Q _ => ∃ (H0 : Hp) (ad : Ro → Addr) (m : MS) (sa : Addr) (st : Stp) (j : Nat) (sp : Int), vs = [.ref (ad .bench), .ref sa, .int j, .int sp] ∧ BA K H0 ad m H ∧ m.on = true ∧ H0 sa = some (.tup st.vals) ∧ st.lays = true ∧ m.can st ∧ j < m.width ∧ m.tn + 1 < 10000000 ∧ (∀ p row md, st = .spread p row md → sp = m.rc row 0) ∧
  ∀ (t' : Nat) (a : Addr) (H' : Hp), t' ≤ m.tn + 1 → BA K H0 ad { m with tn := t' } H' → H' a = some (.tup [.int (m.got j st).1, fv (m.got j st).2]) → Q (.ref a) H'
theorem sc_lane_got : FnScope ["bench", "step", "lane", "spread", "word", "element"] ["bench", "step", "lane", "spread"] (defScope s_lane_got) := ⟨rfl, rfl, rfl, by decide +kernel, rfl, by decide +kernel, by decide +kernel⟩
theorem ok_lane_got {P : Program} {w : World} {K : PySem.W.Frag} {mg : Str → Option Value} {base : Heap} (T : Txt w K mg) : FnOk P w K mg base CX0 5 (ad_lane_got K) (fdOf K (ad_lane_got K)) ["bench", "step", "lane", "spread"] (sp_lane_got K) := by
  have C_read_slot := cal_read_slot (P := P) (base := base) T
  have C_seat_number := cal_seat_number (P := P) (base := base) T
  have C_pick_got := cal_pick_got (P := P) (base := base) T
  have C_shift_got := cal_shift_got (P := P) (base := base) T
  have C_read_cell := cal_read_cell (P := P) (base := base) T
  have C_op_got := cal_op_got (P := P) (base := base) T
  have C_gather_got := cal_gather_got (P := P) (base := base) T
  refine T.f_lane_got.ok sc_lane_got (fun vs H Q E h => ?_) (fun cdv A outer s H vs Q E hr h => ?_)
  · obtain ⟨_, _, _, _, _, _, _, rfl, _⟩ := h
    rfl
  · have hu := hu_of hr
    have nd := sc_lane_got.nd
    refine ⟨_, PSs.nox ((pss_cons (ps_set (i := 4) nd rfl (Or.inl rfl) (pe_ix ix_tup (pv 1) pe_int (fun _ _ => rfl)))
      (pss_cons (ps_set (i := 5) nd rfl (Or.inl rfl) (pe_op op_add (pe_fld (pe_fld (pv 0) rfl) rfl) (pv 2)))
      (pss_cons (ps_if (pt_cmpR op_eq (pv 4) pe_str (nomark _))
      (pss_one (ps_ret (pe_cl C_gather_got (hr.mono (by decide)) (pa_cons (pv 0) (pa_cons (pv 1) (pa_cons (pv 2) pa_nil))))))
      pss_nil)
      (pss_cons (ps_if (pt_cmpR op_eq (pv 4) pe_str (nomark _))
      (pss_one (ps_ret (pe_cl C_op_got (hr.mono (by decide)) (pa_cons (pv 0) (pa_cons (pv 1) (pa_cons (pv 2) pa_nil))))))
      pss_nil)
      (pss_cons (ps_if (pt_cmpR op_eq (pv 4) pe_str (nomark _))
      (pss_one (ps_ret (pe_tup (pa_cons (pe_ix ix_tup (pv 1) pe_int (fun _ _ => rfl)) (pa_cons pe_non pa_nil)))))
      pss_nil)
      (pss_cons (ps_if (pt_cmpR op_eq (pv 4) pe_str (nomark _))
      (pss_one (ps_ret (pe_tup (pa_cons (pv 5) (pa_cons pe_non pa_nil)))))
      pss_nil)
      (pss_cons (ps_if (pt_cmpR op_eq (pv 4) pe_str (nomark _))
      (pss_one (ps_ret (pe_tup (pa_cons (pe_cl C_read_cell (hr.mono (by decide)) (pa_cons (pv 0) (pa_cons (pe_ix ix_tup (pv 1) pe_int (fun _ _ => rfl)) (pa_cons (pv 5) pa_nil)))) (pa_cons pe_non pa_nil)))))
      pss_nil)
      (pss_cons (ps_if (pt_cmpR op_eq (pv 4) pe_str (nomark _))
      (pss_one (ps_ret (pe_tup (pa_cons (pv 3) (pa_cons pe_non pa_nil)))))
      pss_nil)
      (pss_cons (ps_if (pt_cmpR op_eq (pv 4) pe_str (nomark _))
      (pss_one (ps_ret (pe_tup (pa_cons (pe_cl C_shift_got (hr.mono (by decide)) (pa_cons (pv 0) (pa_cons (pv 1) (pa_cons (pv 5) pa_nil)))) (pa_cons pe_non pa_nil)))))
      pss_nil)
      (pss_cons (ps_if (pt_cmpR op_eq (pv 4) pe_str (nomark _))
      (pss_one (ps_ret (pe_tup (pa_cons (pe_cl C_pick_got (hr.mono (by decide)) (pa_cons (pv 0) (pa_cons (pv 1) (pa_cons (pv 2) pa_nil)))) (pa_cons pe_non pa_nil)))))
      pss_nil)
      (pss_cons (ps_if (pt_cmpR op_eq (pv 4) pe_str (nomark _))
      (pss_one (ps_ret (pe_tup (pa_cons (pe_cl C_seat_number (hr.mono (by decide)) (pa_cons (pv 0) (pa_cons (pe_ix ix_tup (pv 1) pe_int (fun _ _ => rfl)) (pa_cons (pv 2) pa_nil)))) (pa_cons pe_non pa_nil)))))
      pss_nil)
      (pss_one (ps_ret (pe_tup (pa_cons (pe_cl C_read_slot (hr.mono (by decide)) (pa_cons (pv 0) (pa_cons (pe_ix ix_tup (pv 1) pe_int (fun _ _ => rfl)) (pa_cons (pv 2) pa_nil)))) (pa_cons pe_non pa_nil))))))))))))))))), ?_⟩
    obtain ⟨H0, ad, m, sa, st, j, sp, rfl, B, on, hs, hl, hc, hj, ht, hsp, kQ⟩ := h
    have wf := B.wf
    have hjg : j < m.g * m.lanes := Nat.lt_of_lt_of_le hj wf.wd
    have e0 : (m.base : Int) + (j : Int) = ((m.base + j : Nat) : Int) := by push_cast; rfl
    refine ⟨_, rfl, _, _, _, _, rfl, rfl, B.tup hs, st.at0, ?_⟩
    refine ⟨_, rfl, B.now T on (B.fS T on rfl T.n_Strip_base ⟨_, rfl, _, _, rfl, rfl, ?_⟩)⟩
    -- a pair of a number and None made behind m'
    have mk : ∀ (t' : Nat) (H' : Hp) (v : Int), t' ≤ m.tn + 1 → BA K H0 ad { m with tn := t' } H' → m.got j st = (v, none) → ∀ a, H' a = none → Q (.ref a) (upd H' a (.tup [.int v, .non])) := fun t' H' v h1 h2 h3 a ha => by
      refine kQ t' a _ h1 (h2.sm (same_new ha)) ?_
      rw [h3]
      exact upd_same
    have sz2 : ([V.int 0, V.non] : List V).length ≤ sizeLine := by show 2 ≤ sizeLine; decide
    cases st with
    | gather p q row md =>
      refine ⟨_, rfl, rfl, _, rfl, iteDT rfl ?_⟩
      exact ⟨_, rfl, _, rfl, _, rfl, H0, ad, m, sa, p, q, row, md, j, rfl, B, on, hs, hc.1, hc.2, hjg, ht, kQ⟩
    | op p sg q r md =>
      refine ⟨_, rfl, rfl, _, rfl, iteDF (wne (b := "op") rfl (by decide +kernel)) ?_⟩
      refine ⟨_, rfl, rfl, _, rfl, iteDT rfl ?_⟩
      exact ⟨_, rfl, _, rfl, _, rfl, H0, ad, m, sa, p, sg, q, r, md, j, rfl, B, on, hs, hc.1, hc.2, hjg, fun a H' B' h' => kQ m.tn a H' (by omega) B' h'⟩
    | number p n md =>
      refine ⟨_, rfl, rfl, _, rfl, iteDF (wne (b := "number") rfl (by decide +kernel)) ?_⟩
      refine ⟨_, rfl, rfl, _, rfl, iteDF (wne (b := "number") rfl (by decide +kernel)) ?_⟩
      refine ⟨_, rfl, rfl, _, rfl, iteDT rfl ?_⟩
      exact ⟨_, rfl, _, _, _, _, rfl, rfl, B.tup hs, atI_of (j := 2) rfl rfl, sz2, mk m.tn H _ (by omega) B rfl⟩
    | here p md =>
      refine ⟨_, rfl, rfl, _, rfl, iteDF (wne (b := "here") rfl (by decide +kernel)) ?_⟩
      refine ⟨_, rfl, rfl, _, rfl, iteDF (wne (b := "here") rfl (by decide +kernel)) ?_⟩
      refine ⟨_, rfl, rfl, _, rfl, iteDF (wne (b := "here") rfl (by decide +kernel)) ?_⟩
      refine ⟨_, rfl, rfl, _, rfl, iteDT rfl ?_⟩
      exact ⟨_, rfl, sz2, mk m.tn H _ (by omega) B (by show (((m.base + j : Nat) : Int), none) = _; rw [← e0])⟩
    | load p row md =>
      refine ⟨_, rfl, rfl, _, rfl, iteDF (wne (b := "load") rfl (by decide +kernel)) ?_⟩
      refine ⟨_, rfl, rfl, _, rfl, iteDF (wne (b := "load") rfl (by decide +kernel)) ?_⟩
      refine ⟨_, rfl, rfl, _, rfl, iteDF (wne (b := "load") rfl (by decide +kernel)) ?_⟩
      refine ⟨_, rfl, rfl, _, rfl, iteDF (wne (b := "load") rfl (by decide +kernel)) ?_⟩
      refine ⟨_, rfl, rfl, _, rfl, iteDT rfl ?_⟩
      have hc2 : m.base + m.width ≤ m.ln row := hc.2
      refine ⟨_, rfl, _, rfl, _, _, _, _, rfl, rfl, B.tup hs, atI_of (j := 2) rfl rfl, _, rfl, H0, ad, m, row, m.base + j, m.ln row, ?_, B, wf.row hc.1, by omega, by omega, fun H2 B2 => ?_⟩
      · show [_, _, V.int ((m.base : Int) + (j : Int))] = [_, _, V.int ((m.base + j : Nat) : Int)]
        rw [e0]
      · exact ⟨sz2, mk _ H2 _ (Nat.le_refl _) B2 rfl⟩
    | spread p row md =>
      refine ⟨_, rfl, rfl, _, rfl, iteDF (wne (b := "spread") rfl (by decide +kernel)) ?_⟩
      refine ⟨_, rfl, rfl, _, rfl, iteDF (wne (b := "spread") rfl (by decide +kernel)) ?_⟩
      refine ⟨_, rfl, rfl, _, rfl, iteDF (wne (b := "spread") rfl (by decide +kernel)) ?_⟩
      refine ⟨_, rfl, rfl, _, rfl, iteDF (wne (b := "spread") rfl (by decide +kernel)) ?_⟩
      refine ⟨_, rfl, rfl, _, rfl, iteDF (wne (b := "spread") rfl (by decide +kernel)) ?_⟩
      refine ⟨_, rfl, rfl, _, rfl, iteDT rfl ?_⟩
      exact ⟨_, rfl, sz2, mk m.tn H _ (by omega) B (by rw [hsp p row md rfl]; rfl)⟩
    | shift p row b o md =>
      refine ⟨_, rfl, rfl, _, rfl, iteDF (wne (b := "shift") rfl (by decide +kernel)) ?_⟩
      refine ⟨_, rfl, rfl, _, rfl, iteDF (wne (b := "shift") rfl (by decide +kernel)) ?_⟩
      refine ⟨_, rfl, rfl, _, rfl, iteDF (wne (b := "shift") rfl (by decide +kernel)) ?_⟩
      refine ⟨_, rfl, rfl, _, rfl, iteDF (wne (b := "shift") rfl (by decide +kernel)) ?_⟩
      refine ⟨_, rfl, rfl, _, rfl, iteDF (wne (b := "shift") rfl (by decide +kernel)) ?_⟩
      refine ⟨_, rfl, rfl, _, rfl, iteDF (wne (b := "shift") rfl (by decide +kernel)) ?_⟩
      refine ⟨_, rfl, rfl, _, rfl, iteDT rfl ?_⟩
      refine ⟨_, rfl, _, rfl, _, rfl, H0, ad, m, sa, p, row, b, o, md, m.base + j, 0, ?_, B, hs, hc.1, ht, fun t' H' h1 B' => ⟨sz2, mk t' H' _ h1 B' rfl⟩⟩
      show [_, _, V.int ((m.base : Int) + (j : Int))] = [_, _, V.int ((m.base + j : Nat) : Int)]
      rw [e0]
    | pick p q r k md =>
      refine ⟨_, rfl, rfl, _, rfl, iteDF (wne (b := "pick") rfl (by decide +kernel)) ?_⟩
      refine ⟨_, rfl, rfl, _, rfl, iteDF (wne (b := "pick") rfl (by decide +kernel)) ?_⟩
      refine ⟨_, rfl, rfl, _, rfl, iteDF (wne (b := "pick") rfl (by decide +kernel)) ?_⟩
      refine ⟨_, rfl, rfl, _, rfl, iteDF (wne (b := "pick") rfl (by decide +kernel)) ?_⟩
      refine ⟨_, rfl, rfl, _, rfl, iteDF (wne (b := "pick") rfl (by decide +kernel)) ?_⟩
      refine ⟨_, rfl, rfl, _, rfl, iteDF (wne (b := "pick") rfl (by decide +kernel)) ?_⟩
      refine ⟨_, rfl, rfl, _, rfl, iteDF (wne (b := "pick") rfl (by decide +kernel)) ?_⟩
      refine ⟨_, rfl, rfl, _, rfl, iteDT rfl ?_⟩
      exact ⟨_, rfl, _, rfl, _, rfl, H0, ad, m, sa, p, q, r, k, md, j, 0, rfl, B, on, hs, hc.1, hc.2.1, hc.2.2, hjg, sz2, mk m.tn H _ (by omega) B rfl⟩
    | copy p q md =>
      refine ⟨_, rfl, rfl, _, rfl, iteDF (wne (b := "copy") rfl (by decide +kernel)) ?_⟩
      refine ⟨_, rfl, rfl, _, rfl, iteDF (wne (b := "copy") rfl (by decide +kernel)) ?_⟩
      refine ⟨_, rfl, rfl, _, rfl, iteDF (wne (b := "copy") rfl (by decide +kernel)) ?_⟩
      refine ⟨_, rfl, rfl, _, rfl, iteDF (wne (b := "copy") rfl (by decide +kernel)) ?_⟩
      refine ⟨_, rfl, rfl, _, rfl, iteDF (wne (b := "copy") rfl (by decide +kernel)) ?_⟩
      refine ⟨_, rfl, rfl, _, rfl, iteDF (wne (b := "copy") rfl (by decide +kernel)) ?_⟩
      refine ⟨_, rfl, rfl, _, rfl, iteDF (wne (b := "copy") rfl (by decide +kernel)) ?_⟩
      refine ⟨_, rfl, rfl, _, rfl, iteDF (wne (b := "copy") rfl (by decide +kernel)) ?_⟩
      refine ⟨_, rfl, rfl, _, rfl, iteDT rfl ?_⟩
      exact ⟨_, rfl, _, rfl, _, _, _, _, rfl, rfl, B.tup hs, atI_of (j := 2) rfl rfl, _, rfl, H0, ad, m, q, j, rfl, B, on, hc, hjg, sz2, mk m.tn H _ (by omega) B rfl⟩
    | bring p s2 md =>
      refine ⟨_, rfl, rfl, _, rfl, iteDF (wne (b := "bring") rfl (by decide +kernel)) ?_⟩
      refine ⟨_, rfl, rfl, _, rfl, iteDF (wne (b := "bring") rfl (by decide +kernel)) ?_⟩
      refine ⟨_, rfl, rfl, _, rfl, iteDF (wne (b := "bring") rfl (by decide +kernel)) ?_⟩
      refine ⟨_, rfl, rfl, _, rfl, iteDF (wne (b := "bring") rfl (by decide +kernel)) ?_⟩
      refine ⟨_, rfl, rfl, _, rfl, iteDF (wne (b := "bring") rfl (by decide +kernel)) ?_⟩
      refine ⟨_, rfl, rfl, _, rfl, iteDF (wne (b := "bring") rfl (by decide +kernel)) ?_⟩
      refine ⟨_, rfl, rfl, _, rfl, iteDF (wne (b := "bring") rfl (by decide +kernel)) ?_⟩
      refine ⟨_, rfl, rfl, _, rfl, iteDF (wne (b := "bring") rfl (by decide +kernel)) ?_⟩
      refine ⟨_, rfl, rfl, _, rfl, iteDF (wne (b := "bring") rfl (by decide +kernel)) ?_⟩
      have hw := wf.w4
      exact ⟨_, rfl, _, rfl, _, _, _, _, rfl, rfl, B.tup hs, atI_of (j := 2) rfl rfl, _, rfl, H0, ad, m, s2, j, rfl, B, hc, by omega, by omega, fun H2 B2 => ⟨sz2, mk _ H2 _ (Nat.le_refl _) B2 rfl⟩⟩
    | _ => cases hl
theorem cal_lane_got {P : Program} {w : World} {K : PySem.W.Frag} {mg : Str → Option Value} {base : Heap} (T : Txt w K mg) : Cal P w K mg base 5 "lane_got" ["bench", "step", "lane", "spread"] (sp_lane_got K) := ⟨_, _, ok_lane_got T, T.g_lane_got, T.f_lane_got.kp, T.f_lane_got.bindsN (ps := ["bench", "step", "lane", "spread"]) fun _ _ _ _ _ _ us hl => match us, hl with | [_, _, _, _], _ => rfl⟩
end Rb
end

section
set_option Elab.async false
set_option linter.all false
set_option maxRecDepth 100000
set_option maxHeartbeats 4000000
namespace Rb
open PySem PySem.Spec PyProof.Rows L2

/-- what behind a step of the ten is so -/
structure MS.Laid (m : MS) (st : Stp) (s' : Nat → Nat → Int) (fl' : Nat → Option Str) (i : Nat) : Prop where
  oth : ∀ q, q ≠ st.seat → ∀ j, s' q j = m.sn q j
  up : ∀ j, i ≤ j → s' st.seat j = m.sn st.seat j ∧ fl' j = m.fl j
  ok : ∀ j, j < i → m.act st.mask j = true → (m.got j st).2 = none → s' st.seat j = (m.got j st).1
  flt : ∀ j, j < i → fl' j = if m.act st.mask j = true then (match (m.got j st).2 with | some f => some f | none => m.fl j) else m.fl j
/-- a lane's own numbers make what the step gets on it -/
theorem got_congr {m m' : MS} {st : Stp} {j : Nat} (hb : m'.base = m.base) (hl : m'.len = m.len) (hr : m'.rc = m.rc) (hs : ∀ q, m'.sn q j = m.sn q j) (hm : ∀ k, m'.ma k j = m.ma k j) (hsl : ∀ s, m'.sl s j = m.sl s j) : m'.got j st = m.got j st := by
  cases st <;> simp [MS.got, MS.ln, hb, hl, hr, hs, hm, hsl]
theorem iteNS' {c A B : Prop} [Decidable c] (h : ¬ c) (a : A) : if (!decide c) = true then A else B := by
  rw [if_pos (by simp [h])]
  exact a
theorem iteNF {c A B : Prop} [Decidable c] (h : c) (b : B) : if (!decide c) = true then A else B := by
  rw [if_neg (by simp [h])]
  exact b
theorem dput_keepT {H H' : Hp} {a b : Addr} {y v : V} {xs : List V} (d : DPut H a y v H') (h : H b = some (.tup xs)) : H' b = some (.tup xs) := by
  rcases d with ⟨kvs, k, e, _, _, rfl⟩ | ⟨kvs, k, c, e, _, _, _, rfl⟩
  · rw [upd_ne (fun z => by rw [z, e] at h; cases h)]
    exact h
  · rw [upd_ne (fun z => by rw [z, e] at h; cases h)]
    exact h
theorem got_kr {m : MS} (wf : m.WF) {st : Stp} {j : Nat} (hl : st.lays = true) (hc : m.can st) (hj : j < m.width) (h : (m.got j st).2 = none) : KR (m.got j st).1 := by
  have hbw := wf.bw
  have hmn := wf.mn
  cases st with
  | number p n md => exact hc
  | here p md =>
    show KR ((m.base + j : Nat) : Int)
    unfold KR
    omega
  | load p row md => exact wf.rck _ _
  | spread p row md => exact wf.rck _ _
  | shift p row b o md =>
    show KR (if _ then _ else _)
    split
    · exact wf.rck _ _
    · exact hc.2
  | gather p q row md =>
    rw [got_gather]
    split
    · exact wf.rck _ _
    · exact ⟨by decide, by decide⟩
  | op p sg q r md =>
    rw [got_op]
    split
    · rename_i n e
      exact sgn_kr (wf.snk _ _) (wf.snk _ _) e
    · exact (show KR 0 from ⟨by decide, by decide⟩)
  | pick p q r k md =>
    show KR (if _ then _ else _)
    split <;> exact wf.snk _ _
  | copy p q md => exact wf.snk _ _
  | bring p s md => exact wf.slk _ _
  | _ => cases hl
def sp_lay_seat (K : PySem.W.Frag) : Sp := fun vs H Q _ => ∃ (H0 : Hp) (ad : Ro → Addr) (m : MS) (sa : Addr) (st : Stp), vs = [.ref (ad .bench), .ref sa] ∧ BA K H0 ad m H ∧ m.on = true ∧ H0 sa = some (.tup st.vals) ∧ st.lays = true ∧ m.can st ∧ st.seat < 8 / m.g ∧ st.mask < 16 ∧ m.tn + 1000 < 10000000 ∧
  ∀ (s' : Nat → Nat → Int) (fl' : Nat → Option Str) (t' : Nat) (H' : Hp), m.Laid st s' fl' (m.g * m.lanes) → t' ≤ m.tn + 1000 → BA K H0 ad { m with sn := s', fl := fl', tn := t' } H' → Q .non H'
theorem sc_lay_seat : FnScope ["bench", "step", "now", "spread", "lane", "got", "number"] ["bench", "step"] (defScope s_lay_seat) := ⟨rfl, rfl, rfl, by decide +kernel, rfl, by decide +kernel, by decide +kernel⟩
theorem ok_lay_seat {P : Program} {w : World} {K : PySem.W.Frag} {mg : Str → Option Value} {base : Heap} (T : Txt w K mg) : FnOk P w K mg base CX0 6 (ad_lay_seat K) (fdOf K (ad_lay_seat K)) ["bench", "step"] (sp_lay_seat K) := by
  have C_Boxes_lay := cal_Boxes_lay (P := P) (base := base) T
  have C_Feed_taken := cal_Feed_taken (P := P) (base := base) T
  have C_lane_active := cal_lane_active (P := P) (base := base) T
  have C_lane_got := cal_lane_got (P := P) (base := base) T
  have C_spread_read := cal_spread_read (P := P) (base := base) T
  refine T.f_lay_seat.ok sc_lay_seat (fun vs H Q E h => ?_) (fun cdv A outer s H vs Q E hr h => ?_)
  · obtain ⟨_, _, _, _, _, rfl, _⟩ := h
    rfl
  · have hu := hu_of hr
    have nd := sc_lay_seat.nd
    refine ⟨_, PSs.nox ((pss_cons (ps_set (i := 2) nd rfl (Or.inl rfl) (pe_fld (pv 0) rfl))
      (pss_cons (ps_set (i := 3) nd rfl (Or.inl rfl) (pe_cl C_spread_read (hr.mono (by decide)) (pa_cons (pv 0) (pa_cons (pv 1) pa_nil))))
      (pss_one (ps_for PassesOwn.never rfl (pi_range1 rfl T.b_range (pa_cons (pe_op op_mul (pe_fld (pv 2) rfl) (pe_fld (pv 0) rfl)) pa_nil)) (pg_name (i := 4) nd rfl (Or.inl rfl))
      (pss_cons (ps_set (i := 5) nd rfl (Or.inl rfl) (pe_tup (pa_cons pe_int (pa_cons pe_str pa_nil))))
      (pss_cons (ps_if (pt_val (pe_cl C_lane_active (hr.mono (by decide)) (pa_cons (pv 0) (pa_cons (pe_ix ix_tup (pv 1) (pe_un un_neg pe_int) (fun _ _ => rfl)) (pa_cons (pv 4) pa_nil)))))
      (pss_cons (ps_set (i := 5) nd rfl (Or.inl rfl) (pe_cl C_lane_got (hr.mono (by decide)) (pa_cons (pv 0) (pa_cons (pv 1) (pa_cons (pv 4) (pa_cons (pv 3) pa_nil))))))
      (pss_one (ps_if (pt_cmpR op_notN (pe_ix ix_tup (pv 5) pe_int (fun _ _ => rfl)) pe_non (nomark _))
      (pss_one (ps_dput hu (pe_fld (pv 2) rfl) (pv 4) (pe_ix ix_tup (pv 5) pe_int (fun _ _ => rfl)) rfl))
      pss_nil)))
      pss_nil)
      (pss_cons (ps_set (i := 6) nd rfl (Or.inl rfl) (pe_ix ix_tup (pv 5) pe_int (fun _ _ => rfl)))
      (pss_cons (ps_if (pt_cmpR op_notN (pe_ix ix_tup (pv 5) pe_int (fun _ _ => rfl)) pe_non (nomark _))
      (pss_one (ps_set (i := 6) nd rfl (Or.inl rfl) (pe_clm0 (pe_fld (pv 0) rfl) C_Feed_taken (hr.mono (by decide)))))
      pss_nil)
      (pss_one (ps_expr (pe_clm (pe_fld (pv 0) rfl) C_Boxes_lay (hr.mono (by decide)) (pa_cons (pe_fld (pv 2) rfl) (pa_cons (pe_ix ix_tup (pv 1) pe_int (fun _ _ => rfl)) (pa_cons (pv 4) (pa_cons (pv 6) pa_nil)))))))))))))))), ?_⟩
    obtain ⟨H0, ad, m, sa, st, rfl, B, on, hs, hl, hc, hp, hm, ht, kQ⟩ := h
    have wf := B.wf
    obtain ⟨g1, g2, g3, g4⟩ := wf.gl
    have w256 := wf.w256
    refine ⟨_, rfl, B.now T on ⟨_, rfl, _, rfl, H0, ad, m, sa, st, rfl, B, on, hs, hc, hm, by omega, fun sp t0 H1 hsp ht0 B1 => ?_⟩⟩
    refine ⟨_, rfl, B1.fS T on rfl T.n_Strip_group ⟨_, rfl, B1.fB T (fun _ => rfl) T.n_Bench_lanes ⟨_, _, rfl, rfl, g4, _, rfl, g1, g2, ?_⟩⟩⟩
    rw [g3]
    refine for_range (fun i σ H' => ∃ (v4 v5 v6 : Option V) (s' : Nat → Nat → Int) (fl' : Nat → Option Str) (t' : Nat), σ = [some (.ref (ad .bench)), some (.ref sa), some (.ref (ad .strip)), some (.int sp), v4, v5, v6] ∧ BA K H0 ad { m with sn := s', fl := fl', tn := t' } H' ∧ m.Laid st s' fl' i ∧ t' ≤ m.tn + 1 + 2 * i)
      ⟨none, none, none, m.sn, m.fl, t0, rfl, B1, ⟨fun _ _ _ => rfl, fun _ _ => ⟨rfl, rfl⟩, fun j h => absurd h (Nat.not_lt_zero j), fun j h => absurd h (Nat.not_lt_zero j)⟩, by omega⟩ ?_ ?_
    · rintro i σ H' hi ⟨v4, v5, v6, s', fl', t', rfl, B2, L, ht'⟩
      have e0 : (0 : Int) + (i : Int) = (i : Int) := Int.zero_add _
      rw [e0]
      have hig : i < m.g * m.lanes := hi
      have hact : ({ m with sn := s', fl := fl', tn := t' } : MS).act st.mask i = m.act st.mask i := by
        show (decide (i < m.width) && ((fl' i).isNone && m.ma st.mask i)) = _
        rw [(L.up i (Nat.le_refl _)).2]
        rfl
      have hgot : ({ m with sn := s', fl := fl', tn := t' } : MS).got i st = m.got i st := got_congr rfl rfl rfl (fun q => by
        by_cases e : q = st.seat
        · rw [e]
          exact (L.up i (Nat.le_refl _)).1
        · exact L.oth q e i) (fun _ => rfl) (fun _ => rfl)
      -- the number is laid
      have lay : ∀ (H3 : Hp) (fl2 : Nat → Option Str) (t2 : Nat) (n : Int) (v5 : Option V), BA K H0 ad { m with sn := s', fl := fl2, tn := t2 } H3 → KR n → t2 ≤ m.tn + 1 + 2 * (i + 1) → (∀ j, j ≠ i → fl2 j = fl' j) →
          (m.act st.mask i = true → (m.got i st).2 = none → n = (m.got i st).1) → (fl2 i = if m.act st.mask i = true then (match (m.got i st).2 with | some f => some f | none => m.fl i) else m.fl i) →
          ∀ (D : Ends), (∀ σ H', (∃ (v4 v5 v6 : Option V) (s' : Nat → Nat → Int) (fl' : Nat → Option Str) (t' : Nat), σ = [some (.ref (ad .bench)), some (.ref sa), some (.ref (ad .strip)), some (.int sp), v4, v5, v6] ∧ BA K H0 ad { m with sn := s', fl := fl', tn := t' } H' ∧ m.Laid st s' fl' (i + 1) ∧ t' ≤ m.tn + 1 + 2 * (i + 1)) → D.nx σ H') →
          tDrop (tMeth (He.ga K "Boxes") "lay" (sp_Boxes_lay K) [] E0 (tFld K (tVar 0) "boxes") (tCons (tFld K (tVar 2) "group") (tCons (tOp (rIxT K) (tVar 1) (tC (.int 1))) (tCons (tVar 4) (tCons (tVar 6) tNil))))) D [some (.ref (ad .bench)), some (.ref sa), some (.ref (ad .strip)), some (.int sp), some (.int (i : Int)), v5, some (.int n)] H3 := by
        intro H3 fl2 t2 n v5 B3 hn h2 h3 h4 h5 D hD
        obtain ⟨g, hg, hX⟩ := B3.at1 (r := .boxesO) rfl
        refine ⟨_, rfl, B3.fB T (fun _ => rfl) T.n_Bench_boxes ⟨_, _, _, rfl, hX, rfl, _, rfl, B3.fS T on rfl T.n_Strip_group ⟨_, rfl, _, _, _, _, rfl, rfl, B3.tup hs, st.at1 hl, _, rfl, _, rfl, H0, ad, _, st.seat, i, n, rfl, B3, hn, hp, hig, fun H4 B4 => ?_⟩⟩⟩
        refine hD _ H4 ⟨_, _, _, upd2 s' st.seat i n, fl2, t2, rfl, B4, ⟨fun q hq j => ?_, fun j hj => ⟨?_, ?_⟩, fun j hj ha hgn => ?_, fun j hj => ?_⟩, h2⟩
        · rw [upd2_ne (fun z => hq z.1)]
          exact L.oth q hq j
        · rw [upd2_ne (fun z => by omega)]
          exact (L.up j (by omega)).1
        · rw [h3 j (by omega)]
          exact (L.up j (by omega)).2
        · by_cases e : j = i
          · subst e
            rw [upd2_same]
            exact h4 ha hgn
          · rw [upd2_ne (fun z => e z.2)]
            exact L.ok j (by omega) ha hgn
        · by_cases e : j = i
          · subst e
            exact h5
          · rw [h3 j e]
            exact L.flt j (by omega)
      have out : ∀ (σ : L2.St) H', (∃ (v4 v5 v6 : Option V) (s' : Nat → Nat → Int) (fl' : Nat → Option Str) (t' : Nat), σ = [some (.ref (ad .bench)), some (.ref sa), some (.ref (ad .strip)), some (.int sp), v4, v5, v6] ∧ BA K H0 ad { m with sn := s', fl := fl', tn := t' } H' ∧ m.Laid st s' fl' (i + 1) ∧ t' ≤ m.tn + 1 + 2 * (i + 1)) →
          (∃ (v4 v5 v6 : Option V) (s' : Nat → Nat → Int) (fl' : Nat → Option Str) (t' : Nat), σ = [some (.ref (ad .bench)), some (.ref sa), some (.ref (ad .strip)), some (.int sp), v4, v5, v6] ∧ BA K H0 ad { m with sn := s', fl := fl', tn := t' } H' ∧ m.Laid st s' fl' (i + 1) ∧ t' ≤ m.tn + 1 + 2 * (i + 1)) := fun _ _ h => h
      refine ⟨by show 2 ≤ sizeLine; decide, fun a ha => ?_⟩
      have B3 := B2.sm (same_new (o := .tup [.int 0, .str "none"]) ha)
      refine ⟨_, rfl, _, rfl, _, rfl, _, _, _, _, rfl, rfl, B3.tup hs, st.atL hl, _, rfl, H0, ad, _, st.mask, i, rfl, B3, on, hm, _, rfl, ?_⟩
      rw [hact]
      cases hA : m.act st.mask i with
      | false =>
        have h1 : SqT K (upd H' a (.tup [.int 0, .str "none"])) a [.int 0, .str "none"] := SqT.of upd_same
        refine ⟨_, rfl, a, _, _, _, rfl, rfl, h1, atI_of (j := 0) rfl rfl, ?_⟩
        refine ⟨_, rfl, a, _, _, _, rfl, rfl, h1, atI_of (j := 1) rfl rfl, rfl, _, rfl, iteNS' (by intro q; cases q) ?_⟩
        obtain ⟨dx, fs, p1, p2, p3⟩ := B3.dust
        refine ⟨_, rfl, B3.fB T (fun _ => rfl) T.n_Bench_dust ⟨_, dx, fs, rfl, p1, p2, p3 _ _ _ fun n H4 hn B4 => ?_⟩⟩
        exact lay H4 fl' t' n _ B4 hn (by omega) (fun _ _ => rfl) (fun z => by rw [hA] at z; cases z) (by rw [hA]; exact (L.up i (Nat.le_refl _)).2) _ out
      | true =>
        have hjw := act_lt hA
        refine ⟨_, rfl, _, rfl, _, rfl, _, rfl, H0, ad, _, sa, st, i, sp, rfl, B3, on, hs, hl, hc, hjw, by show t' + 1 < 10000000; omega, fun p row md e => hsp p row md e ⟨i, by rw [e] at hA; exact hA⟩, fun t3 a3 H3 h3 B4 h4 => ?_⟩
        rw [hgot] at h4
        have h3' : t3 ≤ t' + 1 := h3
        have h1 : SqT K H3 a3 _ := SqT.of h4
        cases hg2 : (m.got i st).2 with
        | none =>
          rw [hg2] at h4 h1
          refine ⟨_, rfl, a3, _, _, _, rfl, rfl, h1, atI_of (j := 1) rfl rfl, rfl, _, rfl, iteNF rfl ?_⟩
          refine ⟨_, rfl, a3, _, _, _, rfl, rfl, h1, atI_of (j := 0) rfl rfl, ?_⟩
          refine ⟨_, rfl, a3, _, _, _, rfl, rfl, h1, atI_of (j := 1) rfl rfl, rfl, _, rfl, iteNF rfl ?_⟩
          refine lay H3 fl' t3 _ _ B4 ?_ (by omega) (fun _ _ => rfl) (fun _ _ => rfl) (by rw [hA, hg2]; exact (L.up i (Nat.le_refl _)).2) _ out
          exact got_kr wf hl hc hjw hg2
        | some f =>
          rw [hg2] at h4 h1
          have B4' : BA K H0 ad { m with sn := s', fl := fl', tn := t3 } H3 := B4
          obtain ⟨H5, d1, B5⟩ := B4'.dput on (show t3 < 10000000 by omega) i f
          have h5 : H5 a3 = some (.tup [.int (m.got i st).1, fv (some f)]) := dput_keepT d1 h4
          have h1' : SqT K H5 a3 _ := SqT.of h5
          refine ⟨_, rfl, a3, _, _, _, rfl, rfl, h1, atI_of (j := 1) rfl rfl, rfl, _, rfl, iteNS' (by intro q; cases q) ?_⟩
          refine ⟨_, rfl, a3, _, _, _, rfl, rfl, h1, atI_of (j := 1) rfl rfl, _, rfl, B4'.fS T on rfl T.n_Strip_faults ⟨_, rfl, _, H5, rfl, d1, ?_⟩⟩
          refine ⟨_, rfl, a3, _, _, _, rfl, rfl, h1', atI_of (j := 0) rfl rfl, ?_⟩
          refine ⟨_, rfl, a3, _, _, _, rfl, rfl, h1', atI_of (j := 1) rfl rfl, rfl, _, rfl, iteNS' (by intro q; cases q) ?_⟩
          obtain ⟨dx, fs, p1, p2, p3⟩ := B5.dust
          refine ⟨_, rfl, B5.fB T (fun _ => rfl) T.n_Bench_dust ⟨_, dx, fs, rfl, p1, p2, p3 _ _ _ fun n H6 hn B6 => ?_⟩⟩
          refine lay H6 (upd1 fl' i (some f)) (t3 + 1) n _ B6 hn (by omega) (fun j hj => upd1_ne hj) (fun _ z => by rw [hg2] at z; cases z) ?_ _ out
          rw [upd1_same, hA, hg2]
          rfl
    · rintro σ H' ⟨v4, v5, v6, s', fl', t', rfl, B2, L, ht'⟩
      exact kQ s' fl' t' H' L (by omega) B2
theorem cal_lay_seat {P : Program} {w : World} {K : PySem.W.Frag} {mg : Str → Option Value} {base : Heap} (T : Txt w K mg) : Cal P w K mg base 6 "lay_seat" ["bench", "step"] (sp_lay_seat K) := ⟨_, _, ok_lay_seat T, T.g_lay_seat, T.f_lay_seat.kp, T.f_lay_seat.bindsN (ps := ["bench", "step"]) fun _ _ _ _ _ _ us hl => match us, hl with | [_, _], _ => rfl⟩
end Rb
end

section
set_option Elab.async false
set_option linter.all false
set_option maxRecDepth 100000
set_option maxHeartbeats 4000000
namespace Rb
open PySem PySem.Spec PyProof.Rows L2

def MS.begun (m : MS) (many base : Nat) (ma' : Nat → Nat → Bool) : MS :=
  { m with on := true, many := many, base := base, began := min (many - base) (m.g * m.lanes), width := min (many - base) (m.g * m.lanes), fl := fun _ => none, cut := none, ma := ma' }
def newAd (ad : Ro → Addr) (x l : Addr) : Ro → Addr
  | .strip => x
  | .flts => l
  | r => ad r
theorem MS.WF.begun {m : MS} (wf : m.WF) {many base : Nat} (h1 : many ≤ 400) (h2 : base ≤ many) (ma' : Nat → Nat → Bool) : (m.begun many base ma').WF := by
  refine ⟨wf.g3, wf.l1, wf.l2, wf.len7, wf.lenb, wf.snk, wf.slk, wf.rck, wf.cark, Nat.min_le_right _ _, ?_, h1, ?_, (fun c e => by cases e), wf.tnb⟩
  · show base + min (many - base) (m.g * m.lanes) ≤ many
    omega
  · show min (many - base) (m.g * m.lanes) ≤ 400
    omega
section
variable {w : World} {K : PySem.W.Frag} {mg : Str → Option Value} {H0 H1 H H' H2 : Hp} {ad : Ro → Addr} {m m' : MS}
theorem BA.newStrip (B : BA K H0 ad m H) {x l dx : Addr} {many base : Nat} (hm : many ≤ 400) (hb : base ≤ many) (hx : H x = none) (hl : H l = none) (hxl : x ≠ l) (s : Same H H2)
    (h1 : H2 x = some (.ins (He.ga K "Strip") dx [("many", .int many), ("group", .int m.g), ("base", .int base), ("began", .int ((min (many - base) (m.g * m.lanes) : Nat) : Int)), ("width", .int ((min (many - base) (m.g * m.lanes) : Nat) : Int)), ("faults", .ref l), ("cut", .non)])) (h2 : H2 l = some (.dK [])) :
    ∃ dxb fs, H2 (ad .bench) = some (.ins (He.ga K "Bench") dxb fs) ∧ fs.length < 1000 ∧ BA K H0 (newAd ad x l) (m.begun many base m.ma) (upd H2 (ad .bench) (.ins (He.ga K "Bench") dxb (putF "now" (.ref x) fs))) := by
  obtain ⟨wf, g, hg, A⟩ := B
  have hbn := A.at_ .bench rfl
  have hbn2 := s _ _ hbn
  have nx : ∀ r, rok m.on r = true → ad r ≠ x := fun r hr z => by rw [← z, A.at_ r hr] at hx; cases hx
  have nl : ∀ r, rok m.on r = true → ad r ≠ l := fun r hr z => by rw [← z, A.at_ r hr] at hl; cases hl
  refine ⟨_, _, hbn2, by show 13 < 1000; decide, wf.begun hm hb m.ma, { g with kvs := [], dx := fun r => if r = .strip then dx else g.dx r }, ⟨hg.tch, Nat.zero_le _, fun j => rfl, hg.d1, hg.dk, hg.dl, hg.p1, hg.pl⟩, ?_⟩
  have old : ∀ r, r ≠ .strip → r ≠ .flts → rok true r = true → rok m.on r = true ∧ newAd ad x l r = ad r := fun r h1 h2 h3 => by
    cases r <;> first | exact ⟨h3, rfl⟩ | exact (h1 rfl).elim | exact (h2 rfl).elim
  refine ⟨fun r r' hr hr' e => ?_, fun r hr => ?_, fun r hr => ?_, same_upd (A.same.trans s) (A.off .bench rfl)⟩
  · by_cases c1 : r = .strip
    · subst c1
      by_cases c2 : r' = .strip
      · exact c2.symm
      · by_cases c3 : r' = .flts
        · subst c3
          exact (hxl e).elim
        · obtain ⟨k1, k2⟩ := old r' c2 c3 hr'
          rw [k2] at e
          exact (nx r' k1 e.symm).elim
    · by_cases c1' : r = .flts
      · subst c1'
        by_cases c2 : r' = .strip
        · subst c2
          exact (hxl e.symm).elim
        · by_cases c3 : r' = .flts
          · exact c3.symm
          · obtain ⟨k1, k2⟩ := old r' c2 c3 hr'
            rw [k2] at e
            exact (nl r' k1 e.symm).elim
      · obtain ⟨k1, k2⟩ := old r c1 c1' hr
        rw [k2] at e
        by_cases c2 : r' = .strip
        · subst c2
          exact (nx r k1 e).elim
        · by_cases c3 : r' = .flts
          · subst c3
            exact (nl r k1 e).elim
          · obtain ⟨k3, k4⟩ := old r' c2 c3 hr'
            rw [k4] at e
            exact A.inj r r' k1 k3 e
  · by_cases c1 : r = .strip
    · subst c1
      exact A.same.free hx
    · by_cases c1' : r = .flts
      · subst c1'
        exact A.same.free hl
      · obtain ⟨k1, k2⟩ := old r c1 c1' hr
        rw [k2]
        exact A.off r k1
  · by_cases c1 : r = .strip
    · subst c1
      show upd H2 (ad .bench) _ x = _
      rw [upd_ne (nx .bench rfl).symm, h1]
      rfl
    · by_cases c1' : r = .flts
      · subst c1'
        show upd H2 (ad .bench) _ l = _
        rw [upd_ne (nl .bench rfl).symm, h2]
        rfl
      · obtain ⟨k1, k2⟩ := old r c1 c1' hr
        by_cases c4 : r = .bench
        · subst c4
          show upd H2 (ad .bench) _ (ad .bench) = _
          rw [upd_same]
          rfl
        · rw [k2, upd_ne (fun z => c4 (A.inj r .bench k1 rfl z)), s _ _ (A.at_ r k1)]
          cases r <;> first | rfl | exact (c1 rfl).elim | exact (c1' rfl).elim | exact (c4 rfl).elim
theorem min_cast {a b c d : Nat} : (if ((c : Int) * (d : Int)) < (a : Int) - (b : Int) then (c : Int) * (d : Int) else (a : Int) - (b : Int)) = (if b ≤ a then ((min (a - b) (c * d) : Nat) : Int) else (if ((c : Int) * (d : Int)) < (a : Int) - (b : Int) then (c : Int) * (d : Int) else (a : Int) - (b : Int))) := by
  split
  · split
    · rename_i h1 h2
      have e : (c : Int) * (d : Int) = ((c * d : Nat) : Int) := by push_cast; rfl
      rw [e] at *
      omega
    · rfl
  · split
    · rename_i h1 h2
      have e : (c : Int) * (d : Int) = ((c * d : Nat) : Int) := by push_cast; rfl
      rw [e] at *
      omega
    · rfl
end
def sp_begin_strip (K : PySem.W.Frag) : Sp := fun vs H Q _ => ∃ (H0 : Hp) (ad : Ro → Addr) (m : MS) (many base : Nat), vs = [.ref (ad .bench), .int many, .int m.g, .int base] ∧ BA K H0 ad m H ∧ many ≤ 400 ∧ base ≤ many ∧
  ∀ (ad' : Ro → Addr) (ma' : Nat → Nat → Bool) (H' : Hp), (∀ r, r ≠ .strip → r ≠ .flts → ad' r = ad r) → (∀ k, k ≠ 0 → ∀ j, ma' k j = m.ma k j) → (∀ j, j < min (many - base) (m.g * m.lanes) → ma' 0 j = true) → BA K H0 ad' (m.begun many base ma') H' → Q .non H'
theorem sc_begin_strip : FnScope ["bench", "many", "group", "base", "width", "lane"] ["bench", "many", "group", "base"] (defScope s_begin_strip) := ⟨rfl, rfl, rfl, by decide +kernel, rfl, by decide +kernel, by decide +kernel⟩
theorem ok_begin_strip {P : Program} {w : World} {K : PySem.W.Frag} {mg : Str → Option Value} {base : Heap} (T : Txt w K mg) : FnOk P w K mg base CX0 3 (ad_begin_strip K) (fdOf K (ad_begin_strip K)) ["bench", "many", "group", "base"] (sp_begin_strip K) := by
  have C_Feed_taken := cal_Feed_taken (P := P) (base := base) T
  have C_Strip_init := cal_Strip_init (P := P) (base := base) T
  refine T.f_begin_strip.ok sc_begin_strip (fun vs H Q E h => ?_) (fun cdv A outer s H vs Q E hr h => ?_)
  · obtain ⟨_, _, _, _, _, rfl, _⟩ := h
    rfl
  · have hu := hu_of hr
    have nd := sc_begin_strip.nd
    refine ⟨_, PSs.nox ((pss_cons (ps_set (i := 4) nd rfl (Or.inl rfl) (pe_callB (call_min2 rfl) rfl T.b_min (by decide +kernel) (pa_cons (pe_op op_sub (pv 1) (pv 3)) (pa_cons (pe_op op_mul (pv 2) (pe_fld (pv 0) rfl)) pa_nil))))
      (pss_cons (ps_fld (pv 0) (pe_clc C_Strip_init (hr.mono (by decide)) (pa_cons (pv 1) (pa_cons (pv 2) (pa_cons (pv 3) (pa_cons (pv 4) pa_nil))))) rfl)
      (pss_one (ps_for PassesOwn.never rfl (pi_range1 rfl T.b_range (pa_cons (pe_op op_mul (pv 2) (pe_fld (pv 0) rfl)) pa_nil)) (pg_name (i := 5) nd rfl (Or.inl rfl))
      (pss_one (ps_if (pt_cmpR op_lt (pv 5) (pv 4) (nomark _))
      (pss_one (ps_asg pe_bl (pg_sub (pe_ix ix_list (pe_fld (pv 0) rfl) pe_int (fun _ _ => rfl)) (pv 5) set_list)))
      (pss_one (ps_asg (pe_cmpR op_eq (pe_op op_mod (pe_clm0 (pe_fld (pv 0) rfl) C_Feed_taken (hr.mono (by decide))) pe_int) pe_int (nomark _)) (pg_sub (pe_ix ix_list (pe_fld (pv 0) rfl) pe_int (fun _ _ => rfl)) (pv 5) set_list)))))))))), ?_⟩
    obtain ⟨H0, ad, m, many, base, rfl, B, hm, hb, kQ⟩ := h
    have wf := B.wf
    obtain ⟨g1, g2, g3, g4⟩ := wf.gl
    have w256 := wf.w256
    refine ⟨_, rfl, _, rfl, _, _, rfl, rfl, _, rfl, _, rfl, B.fB T (fun _ => rfl) T.n_Bench_lanes ⟨_, _, rfl, rfl, g4, _, _, rfl, ?_⟩⟩
    rw [min_cast, if_pos hb]
    generalize hW : min (many - base) (m.g * m.lanes) = W at *
    refine ⟨_, rfl, _, rfl, _, rfl, _, rfl, ?_⟩
    intro x dx hx hdx hne
    have s0 : Same H (upd (upd H dx (.own x)) x (.ins (He.ga K "Strip") dx [])) := same_upd (same_new hdx) hx
    refine ⟨x, dx, _, _, _, _, rfl, upd_same, fun l H' hl h1 h2 h3 => ⟨rfl, ?_⟩⟩
    have hl0 : H l = none := s0.free hl
    have hxl : x ≠ l := fun z => by rw [← z, upd_same] at hl; cases hl
    have s1 : Same H H' := fun b o e => h3 b o (ne_of_none e hx) (s0 b o e)
    rw [← hW] at h1
    obtain ⟨dxb, fs, q1, q2, B1⟩ := B.newStrip hm hb hx hl0 hxl s1 h1 h2
    refine ⟨_, rfl, _, _, dxb, fs, rfl, q1, T.cl_Bench, T.n_Bench_now, q2, ?_⟩
    generalize upd H' (ad .bench) (.ins (He.ga K "Bench") dxb (putF "now" (.ref x) fs)) = H1 at B1 ⊢
    refine ⟨_, rfl, _, rfl, B1.fB T (fun _ => rfl) T.n_Bench_lanes ⟨_, _, rfl, rfl, g4, _, rfl, g1, g2, ?_⟩⟩
    rw [g3]
    refine for_range (fun i σ H' => ∃ (v5 : Option V) (ma' : Nat → Nat → Bool), σ = [some (.ref (ad .bench)), some (.int many), some (.int m.g), some (.int base), some (.int (W : Int)), v5] ∧ BA K H0 (newAd ad x l) (m.begun many base ma') H' ∧ (∀ k, k ≠ 0 → ∀ j, ma' k j = m.ma k j) ∧ (∀ j, j < i → j < W → ma' 0 j = true))
      ⟨none, m.ma, rfl, B1, fun _ _ _ => rfl, fun j h => absurd h (Nat.not_lt_zero j)⟩ ?_ ?_
    · rintro i σ H2 hi ⟨v5, ma', rfl, B2, k1, k2⟩
      have e0 : (0 : Int) + (i : Int) = (i : Int) := Int.zero_add _
      rw [e0]
      have hi4 : i < 4 * m.lanes := Nat.lt_of_lt_of_le hi w256.1
      have put : ∀ (b : Bool) (H3 : Hp), BA K H0 (newAd ad x l) (m.begun many base ma') H3 → (i < W → b = true) →
          ∃ p_1 xs, H3 p_1 = some (.lst xs) ∧ p_1 = ad (.mask 0) ∧ xs.length = 4 * m.lanes ∧ (∃ (v5 : Option V) (ma' : Nat → Nat → Bool), [some (V.ref (ad .bench)), some (V.int many), some (V.int m.g), some (V.int base), some (V.int (W : Int)), some (V.int (i : Int))] = [some (.ref (ad .bench)), some (.int many), some (.int m.g), some (.int base), some (.int (W : Int)), v5] ∧ BA K H0 (newAd ad x l) (m.begun many base ma') (upd H3 p_1 (.lst (xs.set i (.bl b)))) ∧ (∀ k, k ≠ 0 → ∀ j, ma' k j = m.ma k j) ∧ (∀ j, j < i + 1 → j < W → ma' 0 j = true)) := by
        intro b H3 B3 hbt
        have hmk := B3.lst (r := .mask 0) rfl (xs := _) fun _ => rfl
        refine ⟨_, _, hmk, rfl, by rw [List.length_map, List.length_range]; rfl, _, upd2 ma' 0 i b, rfl, B3.w_mask b (by decide) hi4, fun k hk j => ?_, fun j hj hjw => ?_⟩
        · rw [upd2_ne (fun z => hk z.1)]
          exact k1 k hk j
        · by_cases e : j = i
          · rw [e, upd2_same]
            exact hbt (by omega)
          · rw [upd2_ne (fun z => e z.2)]
            exact k2 j (by omega) hjw
      refine ⟨_, rfl, _, rfl, _, _, rfl, rfl, _, rfl, iteD (fun c => ?_) (fun c => ?_)⟩
      · have hL := B2.lst (r := .masksL) rfl (xs := (List.range 16).map fun i => .ref (newAd ad x l (.mask i))) fun _ => rfl
        obtain ⟨p1, xs, r1, rfl, r2, r3⟩ := put true H2 B2 fun _ => rfl
        exact ⟨_, rfl, B2.fB T (fun _ => rfl) T.n_Bench_masks ⟨_, _, _, _, rfl, rfl, SqL.of hL, atI_of (j := 0) rfl (rm_get (by decide)), _, rfl, _, _, _, i, rfl, rfl, r1, ixN_of rfl (by rw [r2]; exact hi4), r3⟩⟩
      · have c' : ¬ (i : Int) < (W : Int) := c
        obtain ⟨dx2, fs2, p1, p2, p3⟩ := B2.dust
        refine ⟨_, rfl, B2.fB T (fun _ => rfl) T.n_Bench_dust ⟨_, dx2, fs2, rfl, p1, p2, p3 _ _ _ fun n H3 hn B3 => ⟨_, _, rfl, rfl, (by show (0 : Int) < 2; decide), rfl, ?_⟩⟩⟩
        have hL := B3.lst (r := .masksL) rfl (xs := (List.range 16).map fun i => .ref (newAd ad x l (.mask i))) fun _ => rfl
        obtain ⟨p1, xs, r1, rfl, r2, r3⟩ := put _ H3 B3 fun h => absurd h (by omega)
        exact ⟨_, rfl, B3.fB T (fun _ => rfl) T.n_Bench_masks ⟨_, _, _, _, rfl, rfl, SqL.of hL, atI_of (j := 0) rfl (rm_get (by decide)), _, rfl, _, _, _, i, rfl, rfl, r1, ixN_of rfl (by rw [r2]; exact hi4), r3⟩⟩
    · rintro σ H2 ⟨v5, ma', rfl, B2, k1, k2⟩
      refine kQ (newAd ad x l) ma' H2 (fun r h1 h2 => ?_) k1 (fun j hj => k2 j (by omega) (by omega)) B2
      cases r <;> first | rfl | exact (h1 rfl).elim | exact (h2 rfl).elim
theorem cal_begin_strip {P : Program} {w : World} {K : PySem.W.Frag} {mg : Str → Option Value} {base : Heap} (T : Txt w K mg) : Cal P w K mg base 3 "begin_strip" ["bench", "many", "group", "base"] (sp_begin_strip K) := ⟨_, _, ok_begin_strip T, T.g_begin_strip, T.f_begin_strip.kp, T.f_begin_strip.bindsN (ps := ["bench", "many", "group", "base"]) fun _ _ _ _ _ _ us hl => match us, hl with | [_, _, _, _], _ => rfl⟩
end Rb
end

section
set_option Elab.async false
set_option linter.all false
set_option maxRecDepth 100000
set_option maxHeartbeats 4000000
namespace Rb
open PySem PySem.Spec PyProof.Rows L2

/-- the course at c: ahead, opened -/
def courseF (a o : Int) (t : Addr) : List (Str × V) := [("ahead", .int a), ("opened", .int o), ("turns", .ref t)]
def CO (K : PySem.W.Frag) (H : Hp) (c : Addr) (a o : Int) : Prop := ∃ dx t, H c = some (.ins (He.ga K "Course") dx (courseF a o t))
/-- the bench and the course beside it -/
structure MC (K : PySem.W.Frag) (H0 : Hp) (ad : Ro → Addr) (m : MS) (c : Addr) (a o : Int) (H : Hp) : Prop where
  b : BA K H0 ad m H
  co : CO K H c a o
  off : Off ad m.on c
  new : H0 c = none
section
variable {w : World} {K : PySem.W.Frag} {mg : Str → Option Value} {H0 H1 H H' H2 : Hp} {ad ad' : Ro → Addr} {m m' : MS} {c : Addr} {a o : Int}
theorem BA.offs (B : BA K H1 ad m H) {l : Addr} {ob : HO} (h : H1 l = some ob) : Off ad m.on l := fun r hr z => by
  obtain ⟨wf, g, hg, A⟩ := B
  rw [z, A.off r hr] at h
  cases h
/-- behind a step of the bench alone -/
theorem MC.step (M : MC K H0 ad m c a o H) (B' : BA K (offH ad m.on H) ad' m' H') : MC K H0 ad' m' c a o H' := by
  obtain ⟨dx, t, hc⟩ := M.co
  have h1 : offH ad m.on H c = some (.ins (He.ga K "Course") dx (courseF a o t)) := by rw [offH_out M.off]; exact hc
  exact ⟨B'.weaken M.b.back, ⟨dx, t, B'.same _ _ h1⟩, B'.offs h1, M.new⟩
theorem MC.fC (M : MC K H0 ad m c a o H) (T : Txt w K mg) {f : Str} {v : V} (hl : ∀ t, (courseF a o t).lookup f = some v) (hn : NoAttr K (He.ga K "Course") f) {R : V → Prop} (q : R v) :
    ∃ a' C dx fs v', V.ref c = .ref a' ∧ H a' = some (.ins C dx fs) ∧ Cls K C ∧ NoAttr K C f ∧ List.lookup f fs = some v' ∧ R v' := by
  obtain ⟨dx, t, hc⟩ := M.co
  exact ⟨_, _, _, _, _, rfl, hc, T.cl_Course, hn, hl t, q⟩
theorem MC.setAhead (M : MC K H0 ad m c a o H) : ∃ dx fs, H c = some (.ins (He.ga K "Course") dx fs) ∧ fs.length < 1000 ∧ (fs.lookup ("ahead" : Str) = some (.int a)) ∧ ∀ n : Int, MC K H0 ad m c n o (upd H c (.ins (He.ga K "Course") dx (putF "ahead" (.int n) fs))) := by
  obtain ⟨dx, t, hc⟩ := M.co
  exact ⟨dx, _, hc, by show 3 < 1000; decide, rfl, fun n => ⟨M.b.wr M.off M.new, ⟨dx, t, by rw [upd_same]; rfl⟩, M.off, M.new⟩⟩
theorem MC.setOpened (M : MC K H0 ad m c a o H) : ∃ dx fs, H c = some (.ins (He.ga K "Course") dx fs) ∧ fs.length < 1000 ∧ ∀ n : Int, MC K H0 ad m c a n (upd H c (.ins (He.ga K "Course") dx (putF "opened" (.int n) fs))) := by
  obtain ⟨dx, t, hc⟩ := M.co
  exact ⟨dx, _, hc, by show 3 < 1000; decide, fun n => ⟨M.b.wr M.off M.new, ⟨dx, t, by rw [upd_same]; rfl⟩, M.off, M.new⟩⟩
end
/-- addresses but the strip's stay -/
def AdKeep (ad ad' : Ro → Addr) : Prop := ∀ r, r ≠ .strip → r ≠ .flts → ad' r = ad r
def sp_Course_init (K : PySem.W.Frag) : Sp := fun vs H Q _ => ∃ (p dx : Addr), vs = [.ref p] ∧ H p = some (.ins (He.ga K "Course") dx []) ∧
  ∀ l H', H l = none → H' p = some (.ins (He.ga K "Course") dx (courseF 0 0 l)) → (∀ b o, b ≠ p → H b = some o → H' b = some o) → Q .non H'
theorem sc_Course_init : FnScope ["self"] ["self"] (defScope s_Course_init) := ⟨rfl, rfl, rfl, by decide +kernel, rfl, by decide +kernel, by decide +kernel⟩
theorem ok_Course_init {P : Program} {w : World} {K : PySem.W.Frag} {mg : Str → Option Value} {base : Heap} (T : Txt w K mg) : FnOk P w K mg base CX0 1 (ad_Course_init K) (fdOf K (ad_Course_init K)) ["self"] (sp_Course_init K) := by
  refine T.f_Course_init.ok sc_Course_init (fun vs H Q E h => ?_) (fun cdv A outer s H vs Q E hr h => ?_)
  · obtain ⟨_, _, rfl, _⟩ := h
    rfl
  · have hu := hu_of hr
    have nd := sc_Course_init.nd
    refine ⟨_, PSs.nox ((pss_cons (ps_fld (pv 0) pe_int rfl)
      (pss_cons (ps_fld (pv 0) pe_int rfl)
      (pss_one (ps_fld (pv 0) (pe_lst pa_nil) rfl))))), ?_⟩
    obtain ⟨p, dx, rfl, hp, kQ⟩ := h
    refine ⟨_, rfl, p, _, dx, _, rfl, hp, T.cl_Course, T.n_Course_ahead, (by show 0 < 1000; decide), ?_⟩
    refine ⟨_, rfl, p, _, dx, _, rfl, upd_same, T.cl_Course, T.n_Course_opened, (by show 1 < 1000; decide), ?_⟩
    rw [upd_upd]
    refine ⟨Nat.zero_le _, fun l hl => ?_⟩
    have npl : p ≠ l := fun z => by rw [← z, upd_same] at hl; cases hl
    have hl0 : H l = none := by rw [upd_ne npl.symm] at hl; exact hl
    refine ⟨_, rfl, p, _, dx, _, rfl, (by rw [upd_ne npl, upd_same]), T.cl_Course, T.n_Course_turns, (by show 2 < 1000; decide), kQ l _ hl0 ?_ fun b o hb e => ?_⟩
    · rw [upd_same]
      rfl
    · rw [upd_ne hb, upd_ne (ne_of_none e hl0), upd_ne hb]
      exact e
theorem cal_Course_init {P : Program} {w : World} {K : PySem.W.Frag} {mg : Str → Option Value} {base : Heap} (T : Txt w K mg) : CalC P w K mg base 1 "Course" (He.ga K "Course") ["self"] (sp_Course_init K) := ⟨T.g_Course, _, _, T.mk_Course, ok_Course_init T, T.f_Course_init.bindsN (ps := ["self"]) fun _ _ _ _ _ _ us hl => match us, hl with | [_], _ => rfl⟩
def sp_begin_round (K : PySem.W.Frag) : Sp := fun vs H Q _ => ∃ (H0 : Hp) (ad : Ro → Addr) (m : MS) (c sa : Addr) (a o : Int) (many : Nat), vs = [.ref (ad .bench), .ref c, .ref sa] ∧ MC K H0 ad m c a o H ∧ H0 sa = some (.tup (Stp.begin many m.g).vals) ∧ many ≤ 400 ∧
  ∀ (ad' : Ro → Addr) (ma' : Nat → Nat → Bool) (H' : Hp), AdKeep ad ad' → (∀ k, k ≠ 0 → ∀ j, ma' k j = m.ma k j) → (∀ j, j < min many (m.g * m.lanes) → ma' 0 j = true) → MC K H0 ad' ({ m with car := none }.begun many 0 ma') c a a H' → Q .non H'
theorem sc_begin_round : FnScope ["bench", "course", "step"] ["bench", "course", "step"] (defScope s_begin_round) := ⟨rfl, rfl, rfl, by decide +kernel, rfl, by decide +kernel, by decide +kernel⟩
theorem ok_begin_round {P : Program} {w : World} {K : PySem.W.Frag} {mg : Str → Option Value} {base : Heap} (T : Txt w K mg) : FnOk P w K mg base CX0 4 (ad_begin_round K) (fdOf K (ad_begin_round K)) ["bench", "course", "step"] (sp_begin_round K) := by
  have C_begin_strip := cal_begin_strip (P := P) (base := base) T
  refine T.f_begin_round.ok sc_begin_round (fun vs H Q E h => ?_) (fun cdv A outer s H vs Q E hr h => ?_)
  · obtain ⟨_, _, _, _, _, _, _, _, rfl, _⟩ := h
    rfl
  · have hu := hu_of hr
    have nd := sc_begin_round.nd
    refine ⟨_, PSs.nox ((pss_cons (ps_fld (pv 0) pe_non rfl)
      (pss_cons (ps_fld (pv 1) (pe_fld (pv 1) rfl) rfl)
      (pss_one (ps_expr (pe_cl C_begin_strip (hr.mono (by decide)) (pa_cons (pv 0) (pa_cons (pe_ix ix_tup (pv 2) pe_int (fun _ _ => rfl)) (pa_cons (pe_ix ix_tup (pv 2) pe_int (fun _ _ => rfl)) (pa_cons pe_int pa_nil)))))))))), ?_⟩
    obtain ⟨H0, ad, m, c, sa, a, o, many, rfl, M, hs, hm, kQ⟩ := h
    obtain ⟨dx, fs, q1, q2, q3⟩ := M.b.setCar
    refine ⟨_, rfl, _, _, dx, fs, rfl, q1, T.cl_Bench, T.n_Bench_carried, q2, ?_⟩
    have hcar : ∀ n, (none : Option Int) = some n → KR n := fun n e => by cases e
    have M1 : MC K H0 ad { m with car := none } c a o (upd H (ad .bench) (.ins (He.ga K "Bench") dx (putF "carried" .non fs))) := by
      obtain ⟨dxc, t, hc⟩ := M.co
      refine ⟨q3 none hcar, ⟨dxc, t, ?_⟩, M.off, M.new⟩
      rw [upd_ne (M.off .bench rfl)]
      exact hc
    generalize upd H (ad .bench) (.ins (He.ga K "Bench") dx (putF "carried" .non fs)) = H1 at M1 ⊢
    obtain ⟨dxo, fso, r1, r2, r3⟩ := M1.setOpened
    refine ⟨_, rfl, M1.fC T (fun _ => rfl) T.n_Course_ahead ⟨_, rfl, _, _, dxo, fso, rfl, r1, T.cl_Course, T.n_Course_opened, r2, ?_⟩⟩
    have M2 := r3 a
    generalize upd H1 c (.ins (He.ga K "Course") dxo (putF "opened" (.int a) fso)) = H2 at M2 ⊢
    refine ⟨_, rfl, _, rfl, _, _, _, _, rfl, rfl, M2.b.tup hs, atI_of (j := 1) rfl rfl, _, rfl, _, _, _, _, rfl, rfl, M2.b.tup hs, atI_of (j := 2) rfl rfl, ?_⟩
    refine ⟨_, ad, { m with car := none }, many, 0, rfl, M2.b.rebase, hm, Nat.zero_le _, fun ad' ma' H' h1 h2 h3 B' => ?_⟩
    exact kQ ad' ma' H' h1 h2 (fun j hj => h3 j (by rw [Nat.sub_zero]; exact hj)) (M2.step B')
theorem cal_begin_round {P : Program} {w : World} {K : PySem.W.Frag} {mg : Str → Option Value} {base : Heap} (T : Txt w K mg) : Cal P w K mg base 4 "begin_round" ["bench", "course", "step"] (sp_begin_round K) := ⟨_, _, ok_begin_round T, T.g_begin_round, T.f_begin_round.kp, T.f_begin_round.bindsN (ps := ["bench", "course", "step"]) fun _ _ _ _ _ _ us hl => match us, hl with | [_, _, _], _ => rfl⟩
def sp_next_strip (K : PySem.W.Frag) : Sp := fun vs H Q _ => ∃ (H0 : Hp) (ad : Ro → Addr) (m : MS) (c : Addr) (a o : Int) (t0 : Nat), vs = [.ref (ad .bench), .ref c] ∧ MC K H0 ad m c a o H ∧ m.on = true ∧
  (¬ m.base + m.began < m.many → Q .non H) ∧
  (m.base + m.began < m.many → ∀ (ad' : Ro → Addr) (ma' : Nat → Nat → Bool) (H' : Hp), AdKeep ad ad' → (∀ k, k ≠ 0 → ∀ j, ma' k j = m.ma k j) → (∀ j, j < min (m.many - (m.base + m.began)) (m.g * m.lanes) → ma' 0 j = true) → MC K H0 ad' (m.begun m.many (m.base + m.began) ma') c o o H' → Q .non H')
theorem sc_next_strip : FnScope ["bench", "course", "now", "base"] ["bench", "course"] (defScope s_next_strip) := ⟨rfl, rfl, rfl, by decide +kernel, rfl, by decide +kernel, by decide +kernel⟩
theorem ok_next_strip {P : Program} {w : World} {K : PySem.W.Frag} {mg : Str → Option Value} {base : Heap} (T : Txt w K mg) : FnOk P w K mg base CX0 4 (ad_next_strip K) (fdOf K (ad_next_strip K)) ["bench", "course"] (sp_next_strip K) := by
  have C_begin_strip := cal_begin_strip (P := P) (base := base) T
  refine T.f_next_strip.ok sc_next_strip (fun vs H Q E h => ?_) (fun cdv A outer s H vs Q E hr h => ?_)
  · obtain ⟨_, _, _, _, _, _, _, rfl, _⟩ := h
    rfl
  · have hu := hu_of hr
    have nd := sc_next_strip.nd
    refine ⟨_, PSs.nox ((pss_cons (ps_set (i := 2) nd rfl (Or.inl rfl) (pe_fld (pv 0) rfl))
      (pss_cons (ps_set (i := 3) nd rfl (Or.inl rfl) (pe_op op_add (pe_fld (pv 2) rfl) (pe_fld (pv 2) rfl)))
      (pss_one (ps_if (pt_cmpR op_lt (pv 3) (pe_fld (pv 2) rfl) (nomark _))
      (pss_cons (ps_expr (pe_cl C_begin_strip (hr.mono (by decide)) (pa_cons (pv 0) (pa_cons (pe_fld (pv 2) rfl) (pa_cons (pe_fld (pv 2) rfl) (pa_cons (pv 3) pa_nil))))))
      (pss_one (ps_fld (pv 1) (pe_fld (pv 1) rfl) rfl)))
      pss_nil))))), ?_⟩
    obtain ⟨H0, ad, m, c, a, o, t0, rfl, M, on, kN, kB⟩ := h
    have B := M.b
    have e0 : (m.base : Int) + (m.began : Int) = ((m.base + m.began : Nat) : Int) := by push_cast; rfl
    refine ⟨_, rfl, B.now T on ⟨_, rfl, B.fS T on rfl T.n_Strip_base ⟨_, rfl, B.fS T on rfl T.n_Strip_began ⟨_, _, rfl, rfl, ?_⟩⟩⟩⟩
    refine ⟨_, rfl, _, rfl, B.fS T on rfl T.n_Strip_many ⟨_, _, rfl, rfl, _, rfl, iteD (fun d => ?_) (fun d => ?_)⟩⟩
    · have hd : m.base + m.began < m.many := by
        have d' : (m.base : Int) + (m.began : Int) < (m.many : Int) := d
        omega
      refine ⟨_, rfl, _, rfl, B.fS T on rfl T.n_Strip_many ⟨_, rfl, B.fS T on rfl T.n_Strip_group ⟨_, rfl, ?_⟩⟩⟩
      refine ⟨_, ad, m, m.many, m.base + m.began, ?_, B.rebase, B.wf.mn, Nat.le_of_lt hd, fun ad' ma' H' h1 h2 h3 B' => ?_⟩
      · show [_, _, _, V.int ((m.base : Int) + (m.began : Int))] = [_, _, _, V.int ((m.base + m.began : Nat) : Int)]
        rw [e0]
      have M' := M.step B'
      obtain ⟨dxo, fso, r1, r2, r4, r3⟩ := M'.setAhead
      refine ⟨_, rfl, M'.fC T (fun _ => rfl) T.n_Course_opened ⟨_, rfl, _, _, dxo, fso, rfl, r1, T.cl_Course, T.n_Course_ahead, r2, ?_⟩⟩
      exact kB hd ad' ma' _ h1 h2 h3 (r3 o)
    · have hd : ¬ m.base + m.began < m.many := by
        have d' : ¬ (m.base : Int) + (m.began : Int) < (m.many : Int) := d
        omega
      exact kN hd
theorem cal_next_strip {P : Program} {w : World} {K : PySem.W.Frag} {mg : Str → Option Value} {base : Heap} (T : Txt w K mg) : Cal P w K mg base 4 "next_strip" ["bench", "course"] (sp_next_strip K) := ⟨_, _, ok_next_strip T, T.g_next_strip, T.f_next_strip.kp, T.f_next_strip.bindsN (ps := ["bench", "course"]) fun _ _ _ _ _ _ us hl => match us, hl with | [_, _], _ => rfl⟩
end Rb
end

section
set_option Elab.async false
set_option linter.all false
set_option maxRecDepth 100000
set_option maxHeartbeats 4000000
namespace Rb
open PySem PySem.Spec PyProof.Rows L2

/-- what a step of the bench alone asks, and what is so behind it (R) -/
def MS.eff (m : MS) (R : MS → Prop) : Stp → Prop
  | .choose k p md => k < 16 ∧ p < 8 / m.g ∧ md < 16 ∧ ∀ ma', (∀ k', k' ≠ k → ∀ j, ma' k' j = m.ma k' j) → (∀ j, j < m.width → ma' k j = m.chosen false md p j) → R { m with ma := ma' }
  | .other k p md => k < 16 ∧ p < 8 / m.g ∧ md < 16 ∧ ∀ ma', (∀ k', k' ≠ k → ∀ j, ma' k' j = m.ma k' j) → (∀ j, j < m.width → ma' k j = m.chosen true md p j) → R { m with ma := ma' }
  | .save s p md => s < 60 ∧ p < 8 / m.g ∧ md < 16 ∧ ∀ (s' : Nat → Nat → Int) (t' : Nat), (∀ x j, s' x j = if x = s ∧ m.act md j = true then m.sn p j else m.sl x j) → t' ≤ m.tn + 1000 → R { m with sl := s', tn := t' }
  | .reach p n md => p < 8 / m.g ∧ md < 16 ∧ ∀ (fl' : Nat → Option Str) (t' : Nat), (∀ j, fl' j = if m.act md j = true ∧ ¬ (0 ≤ m.sn p j ∧ m.sn p j < n) then some ("outside" : Str) else m.fl j) → t' ≤ m.tn + 1000 → R { m with fl := fl', tn := t' }
  | .store row p md => row < 7 ∧ m.base + m.width ≤ m.ln row ∧ p < 8 / m.g ∧ md < 16 ∧ ∀ (r' : Nat → Nat → Int) (t' : Nat), r' = (m.actL md).foldl (fun rc j => upd2 rc row (m.base + j) (m.sn p j)) m.rc → t' ≤ m.tn + 1000 → R { m with rc := r', tn := t' }
  | .put row q p md => row < 7 ∧ q < 8 / m.g ∧ p < 8 / m.g ∧ md < 16 ∧ (∀ j, m.act md j = true → 0 ≤ m.sn q j ∧ m.sn q j < m.ln row) ∧ ∀ (r' : Nat → Nat → Int) (t' : Nat), r' = (m.actL md).foldl (fun rc j => upd2 rc row (m.sn q j).toNat (m.sn p j)) m.rc → t' ≤ m.tn + 1000 → R { m with rc := r', tn := t' }
  | .fold row f p md => row < 7 ∧ 0 < m.ln row ∧ Fold9 f ∧ p < 8 / m.g ∧ md < 16 ∧ ∀ (t' : Nat), t' ≤ m.tn + 1000 → R { m with rc := upd2 m.rc row 0 (((m.actL md).map (m.sn p)).foldl (jn f) (m.rc row 0)), tn := t' }
  | .running row f p md => row < 7 ∧ m.base + m.width ≤ m.ln row ∧ Fold9 f ∧ p < 8 / m.g ∧ md < 16 ∧ ∀ (r' : Nat → Nat → Int) (t' : Nat), r' = ((m.actL md).zip (runsOf f m.car ((m.actL md).map (m.sn p)))).foldl (fun rc (q : Nat × Int) => upd2 rc row (m.base + q.1) q.2) m.rc → t' ≤ m.tn + 1000 → R { m with rc := r', car := endR f m.car ((m.actL md).map (m.sn p)), tn := t' }
  | st => st.lays = true ∧ m.can st ∧ st.seat < 8 / m.g ∧ st.mask < 16 ∧ ∀ (s' : Nat → Nat → Int) (fl' : Nat → Option Str) (t' : Nat), m.Laid st s' fl' (m.g * m.lanes) → t' ≤ m.tn + 1000 → R { m with sn := s', fl := fl', tn := t' }
def sp_play_effect (K : PySem.W.Frag) : Sp := fun vs H Q _ => ∃ (H0 : Hp) (ad : Ro → Addr) (m : MS) (sa : Addr) (st : Stp), vs = [.ref (ad .bench), .ref sa] ∧ BA K H0 ad m H ∧ m.on = true ∧ H0 sa = some (.tup st.vals) ∧ m.tn + 1000 < 10000000 ∧
  m.eff (fun m' => ∀ H', BA K H0 ad m' H' → Q .non H') st
theorem sc_play_effect : FnScope ["bench", "step", "word"] ["bench", "step"] (defScope s_play_effect) := ⟨rfl, rfl, rfl, by decide +kernel, rfl, by decide +kernel, by decide +kernel⟩
theorem ok_play_effect {P : Program} {w : World} {K : PySem.W.Frag} {mg : Str → Option Value} {base : Heap} (T : Txt w K mg) : FnOk P w K mg base CX0 8 (ad_play_effect K) (fdOf K (ad_play_effect K)) ["bench", "step"] (sp_play_effect K) := by
  have C_lay_mask := cal_lay_mask (P := P) (base := base) T
  have C_reach_lanes := cal_reach_lanes (P := P) (base := base) T
  have C_save_lanes := cal_save_lanes (P := P) (base := base) T
  have C_store_lanes := cal_store_lanes (P := P) (base := base) T
  have C_put_lanes := cal_put_lanes (P := P) (base := base) T
  have C_fold_lanes := cal_fold_lanes (P := P) (base := base) T
  have C_running_lanes := cal_running_lanes (P := P) (base := base) T
  have C_lay_seat := cal_lay_seat (P := P) (base := base) T
  refine T.f_play_effect.ok sc_play_effect (fun vs H Q E h => ?_) (fun cdv A outer s H vs Q E hr h => ?_)
  · obtain ⟨_, _, _, _, _, rfl, _⟩ := h
    rfl
  · have hu := hu_of hr
    have nd := sc_play_effect.nd
    refine ⟨_, PSs.nox ((pss_cons (ps_set (i := 2) nd rfl (Or.inl rfl) (pe_ix ix_tup (pv 1) pe_int (fun _ _ => rfl)))
      (pss_one (ps_if (PW.pt (pw_or (pt_cmpR op_eq (pv 2) pe_str (nomark _)) (pw_or1 (pt_cmpR op_eq (pv 2) pe_str (nomark _)))))
      (pss_one (ps_expr (pe_cl C_lay_mask (hr.mono (by decide)) (pa_cons (pv 0) (pa_cons (pv 1) pa_nil)))))
      (pss_one (ps_if (pt_cmpR op_eq (pv 2) pe_str (nomark _))
      (pss_one (ps_expr (pe_cl C_reach_lanes (hr.mono (by decide)) (pa_cons (pv 0) (pa_cons (pv 1) pa_nil)))))
      (pss_one (ps_if (pt_cmpR op_eq (pv 2) pe_str (nomark _))
      (pss_one (ps_expr (pe_cl C_save_lanes (hr.mono (by decide)) (pa_cons (pv 0) (pa_cons (pv 1) pa_nil)))))
      (pss_one (ps_if (pt_cmpR op_eq (pv 2) pe_str (nomark _))
      (pss_one (ps_expr (pe_cl C_store_lanes (hr.mono (by decide)) (pa_cons (pv 0) (pa_cons (pv 1) pa_nil)))))
      (pss_one (ps_if (pt_cmpR op_eq (pv 2) pe_str (nomark _))
      (pss_one (ps_expr (pe_cl C_put_lanes (hr.mono (by decide)) (pa_cons (pv 0) (pa_cons (pv 1) pa_nil)))))
      (pss_one (ps_if (pt_cmpR op_eq (pv 2) pe_str (nomark _))
      (pss_one (ps_expr (pe_cl C_fold_lanes (hr.mono (by decide)) (pa_cons (pv 0) (pa_cons (pv 1) pa_nil)))))
      (pss_one (ps_if (pt_cmpR op_eq (pv 2) pe_str (nomark _))
      (pss_one (ps_expr (pe_cl C_running_lanes (hr.mono (by decide)) (pa_cons (pv 0) (pa_cons (pv 1) pa_nil)))))
      (pss_one (ps_if (pt_cmpR op_eq (pv 2) pe_str (nomark _))
      (pss_one ps_never)
      (pss_one (ps_expr (pe_cl C_lay_seat (hr.mono (by decide)) (pa_cons (pv 0) (pa_cons (pv 1) pa_nil))))))))))))))))))))))), ?_⟩
    obtain ⟨H0, ad, m, sa, st, rfl, B, on, hs, ht, hE⟩ := h
    have wf := B.wf
    refine ⟨_, rfl, _, _, _, _, rfl, rfl, B.tup hs, st.at0, ?_⟩
    have seat : st.lays = true → (m.eff (fun m' => ∀ H', BA K H0 ad m' H' → Q .non H') st = (st.lays = true ∧ m.can st ∧ st.seat < 8 / m.g ∧ st.mask < 16 ∧ ∀ (s' : Nat → Nat → Int) (fl' : Nat → Option Str) (t' : Nat), m.Laid st s' fl' (m.g * m.lanes) → t' ≤ m.tn + 1000 → ∀ H', BA K H0 ad { m with sn := s', fl := fl', tn := t' } H' → Q .non H')) := fun hl => by
      cases st <;> first | rfl | cases hl
    have lay : st.lays = true → st.word ≠ "choose" ∧ st.word ≠ "other" ∧ st.word ≠ "reach" ∧ st.word ≠ "save" ∧ st.word ≠ "store" ∧ st.word ≠ "put" ∧ st.word ≠ "fold" ∧ st.word ≠ "running" ∧ st.word ≠ "any" := fun hl => by
      cases st <;> first | (cases hl; done) | (simp only [Stp.word]; decide +kernel)
    have ne : ∀ {x : Str}, st.word ≠ x → ¬ V.str st.word = V.str x := fun h z => h (V.str.inj z)
    by_cases hl : st.lays = true
    · obtain ⟨n1, n2, n3, n4, n5, n6, n7, n8, n9⟩ := lay hl
      rw [seat hl] at hE
      refine ⟨_, rfl, rfl, _, rfl, iteDF (ne n1) ?_⟩
      refine ⟨_, rfl, rfl, _, rfl, iteDF (ne n2) ?_⟩
      refine ⟨_, rfl, rfl, _, rfl, iteDF (ne n3) ?_⟩
      refine ⟨_, rfl, rfl, _, rfl, iteDF (ne n4) ?_⟩
      refine ⟨_, rfl, rfl, _, rfl, iteDF (ne n5) ?_⟩
      refine ⟨_, rfl, rfl, _, rfl, iteDF (ne n6) ?_⟩
      refine ⟨_, rfl, rfl, _, rfl, iteDF (ne n7) ?_⟩
      refine ⟨_, rfl, rfl, _, rfl, iteDF (ne n8) ?_⟩
      refine ⟨_, rfl, rfl, _, rfl, iteDF (ne n9) ?_⟩
      exact ⟨_, rfl, _, rfl, H0, ad, m, sa, st, rfl, B, on, hs, hl, hE.2.1, hE.2.2.1, hE.2.2.2.1, ht, fun s' fl' t' H' h1 h2 B' => hE.2.2.2.2 s' fl' t' h1 h2 H' B'⟩
    cases st with
    | choose k p md =>
      refine ⟨_, rfl, rfl, _, rfl, iteDT rfl ?_⟩
      exact ⟨_, rfl, _, rfl, H0, ad, m, sa, false, k, p, md, rfl, B, on, hs, hE.1, hE.2.1, hE.2.2.1, fun ma' H' h1 h2 B' => hE.2.2.2 ma' h1 h2 H' B'⟩
    | other k p md =>
      refine ⟨_, rfl, rfl, _, rfl, iteDF (wne (b := "other") rfl (by decide +kernel)) ?_⟩
      refine ⟨_, rfl, rfl, _, rfl, iteDT rfl ?_⟩
      exact ⟨_, rfl, _, rfl, H0, ad, m, sa, true, k, p, md, rfl, B, on, hs, hE.1, hE.2.1, hE.2.2.1, fun ma' H' h1 h2 B' => hE.2.2.2 ma' h1 h2 H' B'⟩
    | reach p n md =>
      refine ⟨_, rfl, rfl, _, rfl, iteDF (wne (b := "reach") rfl (by decide +kernel)) ?_⟩
      refine ⟨_, rfl, rfl, _, rfl, iteDF (wne (b := "reach") rfl (by decide +kernel)) ?_⟩
      refine ⟨_, rfl, rfl, _, rfl, iteDT rfl ?_⟩
      exact ⟨_, rfl, _, rfl, H0, ad, m, sa, p, n, md, rfl, B, on, hs, hE.1, hE.2.1, by omega, fun fl' t' H' h1 h2 B' => hE.2.2 fl' t' h1 (by omega) H' B'⟩
    | save s p md =>
      refine ⟨_, rfl, rfl, _, rfl, iteDF (wne (b := "save") rfl (by decide +kernel)) ?_⟩
      refine ⟨_, rfl, rfl, _, rfl, iteDF (wne (b := "save") rfl (by decide +kernel)) ?_⟩
      refine ⟨_, rfl, rfl, _, rfl, iteDF (wne (b := "save") rfl (by decide +kernel)) ?_⟩
      refine ⟨_, rfl, rfl, _, rfl, iteDT rfl ?_⟩
      exact ⟨_, rfl, _, rfl, H0, ad, m, sa, s, p, md, rfl, B, on, hs, hE.1, hE.2.1, hE.2.2.1, by omega, fun s' t' H' h1 h2 B' => hE.2.2.2 s' t' h1 (by omega) H' B'⟩
    | store row p md =>
      refine ⟨_, rfl, rfl, _, rfl, iteDF (wne (b := "store") rfl (by decide +kernel)) ?_⟩
      refine ⟨_, rfl, rfl, _, rfl, iteDF (wne (b := "store") rfl (by decide +kernel)) ?_⟩
      refine ⟨_, rfl, rfl, _, rfl, iteDF (wne (b := "store") rfl (by decide +kernel)) ?_⟩
      refine ⟨_, rfl, rfl, _, rfl, iteDF (wne (b := "store") rfl (by decide +kernel)) ?_⟩
      refine ⟨_, rfl, rfl, _, rfl, iteDT rfl ?_⟩
      exact ⟨_, rfl, _, rfl, H0, ad, m, sa, row, m.ln row, p, md, rfl, B, on, hs, wf.row hE.1, hE.2.1, hE.2.2.1, hE.2.2.2.1, by omega, fun r' t' H' h1 h2 B' => hE.2.2.2.2 r' t' h1 (by omega) H' B'⟩
    | put row q p md =>
      refine ⟨_, rfl, rfl, _, rfl, iteDF (wne (b := "put") rfl (by decide +kernel)) ?_⟩
      refine ⟨_, rfl, rfl, _, rfl, iteDF (wne (b := "put") rfl (by decide +kernel)) ?_⟩
      refine ⟨_, rfl, rfl, _, rfl, iteDF (wne (b := "put") rfl (by decide +kernel)) ?_⟩
      refine ⟨_, rfl, rfl, _, rfl, iteDF (wne (b := "put") rfl (by decide +kernel)) ?_⟩
      refine ⟨_, rfl, rfl, _, rfl, iteDF (wne (b := "put") rfl (by decide +kernel)) ?_⟩
      refine ⟨_, rfl, rfl, _, rfl, iteDT rfl ?_⟩
      exact ⟨_, rfl, _, rfl, H0, ad, m, sa, row, m.ln row, q, p, md, rfl, B, on, hs, wf.row hE.1, hE.2.1, hE.2.2.1, hE.2.2.2.1, by omega, hE.2.2.2.2.1, fun r' t' H' h1 h2 B' => hE.2.2.2.2.2 r' t' h1 (by omega) H' B'⟩
    | fold row f p md =>
      refine ⟨_, rfl, rfl, _, rfl, iteDF (wne (b := "fold") rfl (by decide +kernel)) ?_⟩
      refine ⟨_, rfl, rfl, _, rfl, iteDF (wne (b := "fold") rfl (by decide +kernel)) ?_⟩
      refine ⟨_, rfl, rfl, _, rfl, iteDF (wne (b := "fold") rfl (by decide +kernel)) ?_⟩
      refine ⟨_, rfl, rfl, _, rfl, iteDF (wne (b := "fold") rfl (by decide +kernel)) ?_⟩
      refine ⟨_, rfl, rfl, _, rfl, iteDF (wne (b := "fold") rfl (by decide +kernel)) ?_⟩
      refine ⟨_, rfl, rfl, _, rfl, iteDF (wne (b := "fold") rfl (by decide +kernel)) ?_⟩
      refine ⟨_, rfl, rfl, _, rfl, iteDT rfl ?_⟩
      exact ⟨_, rfl, _, rfl, H0, ad, m, sa, row, m.ln row, f, p, md, rfl, B, on, hs, wf.row hE.1, hE.2.1, hE.2.2.1, hE.2.2.2.1, hE.2.2.2.2.1, by omega, fun t' H' h2 B' => hE.2.2.2.2.2 t' (by omega) H' B'⟩
    | running row f p md =>
      refine ⟨_, rfl, rfl, _, rfl, iteDF (wne (b := "running") rfl (by decide +kernel)) ?_⟩
      refine ⟨_, rfl, rfl, _, rfl, iteDF (wne (b := "running") rfl (by decide +kernel)) ?_⟩
      refine ⟨_, rfl, rfl, _, rfl, iteDF (wne (b := "running") rfl (by decide +kernel)) ?_⟩
      refine ⟨_, rfl, rfl, _, rfl, iteDF (wne (b := "running") rfl (by decide +kernel)) ?_⟩
      refine ⟨_, rfl, rfl, _, rfl, iteDF (wne (b := "running") rfl (by decide +kernel)) ?_⟩
      refine ⟨_, rfl, rfl, _, rfl, iteDF (wne (b := "running") rfl (by decide +kernel)) ?_⟩
      refine ⟨_, rfl, rfl, _, rfl, iteDF (wne (b := "running") rfl (by decide +kernel)) ?_⟩
      refine ⟨_, rfl, rfl, _, rfl, iteDT rfl ?_⟩
      exact ⟨_, rfl, _, rfl, H0, ad, m, sa, row, m.ln row, f, p, md, rfl, B, on, hs, wf.row hE.1, hE.2.1, hE.2.2.1, hE.2.2.2.1, hE.2.2.2.2.1, by omega, fun r' t' H' h1 h2 B' => hE.2.2.2.2.2 r' t' h1 (by omega) H' B'⟩
    | _ => first | exact (hl rfl).elim | exact (hl hE.1).elim
theorem cal_play_effect {P : Program} {w : World} {K : PySem.W.Frag} {mg : Str → Option Value} {base : Heap} (T : Txt w K mg) : Cal P w K mg base 8 "play_effect" ["bench", "step"] (sp_play_effect K) := ⟨_, _, ok_play_effect T, T.g_play_effect, T.f_play_effect.kp, T.f_play_effect.bindsN (ps := ["bench", "step"]) fun _ _ _ _ _ _ us hl => match us, hl with | [_, _], _ => rfl⟩
end Rb
end

section
set_option Elab.async false
set_option linter.all false
set_option maxRecDepth 100000
set_option maxHeartbeats 4000000
namespace Rb
open PySem PySem.Spec PyProof.Rows L2

/-- what a step of the code asks, and what is so behind it -/
def MS.stp (m : MS) (a o : Int) (R : Option (Int × Int × Str) → MS → Int → Int → Prop) : Stp → Prop
  | .begin many g => g = m.g ∧ many ≤ 400 ∧ ∀ ma', (∀ k, k ≠ 0 → ∀ j, ma' k j = m.ma k j) → (∀ j, j < min many (m.g * m.lanes) → ma' 0 j = true) → R none ({ m with car := none }.begun many 0 ma') a a
  | .next => m.on = true ∧ (¬ m.base + m.began < m.many → R none m a o) ∧ (m.base + m.began < m.many → ∀ ma', (∀ k, k ≠ 0 → ∀ j, ma' k j = m.ma k j) → (∀ j, j < min (m.many - (m.base + m.began)) (m.g * m.lanes) → ma' 0 j = true) → R none (m.begun m.many (m.base + m.began) ma') o o)
  | .trim => m.on = true ∧ (∀ c, m.cut = some c → c = m.width) ∧ (∀ c, c < m.width → (m.fl c).isSome = true → (∀ j, j < c → m.fl j = none) → R none { m with cut := some c, width := c } a o) ∧ ((∀ j, j < m.width → m.fl j = none) → R none m a o)
  | .stop n => m.on = true ∧ (m.cut = none → R none m a o) ∧ (∀ c f, m.cut = some c → m.fl c = some f → R (some (n, ((m.base : Nat) : Int) + ((c : Nat) : Int), f)) m a o)
  | st => m.on = true ∧ m.tn + 1000 < 10000000 ∧ m.eff (fun m' => R none m' a o) st
theorem MS.eff_mono {m : MS} {R R' : MS → Prop} (h : ∀ m', R m' → R' m') : ∀ {st : Stp}, m.eff R st → m.eff R' st := fun {st} e => by
  cases st with
  | choose k p md => exact ⟨e.1, e.2.1, e.2.2.1, fun a b c => h _ (e.2.2.2 a b c)⟩
  | other k p md => exact ⟨e.1, e.2.1, e.2.2.1, fun a b c => h _ (e.2.2.2 a b c)⟩
  | save s p md => exact ⟨e.1, e.2.1, e.2.2.1, fun a b c d => h _ (e.2.2.2 a b c d)⟩
  | reach p n md => exact ⟨e.1, e.2.1, fun a b c d => h _ (e.2.2 a b c d)⟩
  | store row p md => exact ⟨e.1, e.2.1, e.2.2.1, e.2.2.2.1, fun a b c d => h _ (e.2.2.2.2 a b c d)⟩
  | put row q p md => exact ⟨e.1, e.2.1, e.2.2.1, e.2.2.2.1, e.2.2.2.2.1, fun a b c d => h _ (e.2.2.2.2.2 a b c d)⟩
  | fold row f p md => exact ⟨e.1, e.2.1, e.2.2.1, e.2.2.2.1, e.2.2.2.2.1, fun a b => h _ (e.2.2.2.2.2 a b)⟩
  | running row f p md => exact ⟨e.1, e.2.1, e.2.2.1, e.2.2.2.1, e.2.2.2.2.1, fun a b c d => h _ (e.2.2.2.2.2 a b c d)⟩
  | _ => exact ⟨e.1, e.2.1, e.2.2.1, e.2.2.2.1, fun a b c d x => h _ (e.2.2.2.2 a b c d x)⟩
/-- a refusal as a value -/
def RefV (H : Hp) (v : V) : Option (Int × Int × Str) → Prop
  | none => v = .non
  | some (n, e, f) => ∃ p, v = .ref p ∧ H p = some (.tup [.int n, .int e, .str f])
def Stp.eff (st : Stp) : Bool := match st with
  | .begin _ _ => false
  | .next => false
  | .trim => false
  | .stop _ => false
  | _ => true
theorem Stp.eff_ne {st : Stp} (h : st.eff = true) : st.word ≠ "begin" ∧ st.word ≠ "next" ∧ st.word ≠ "trim" ∧ st.word ≠ "stop" ∧ st.word ≠ "turns" ∧ st.word ≠ "quiet" ∧ st.word ≠ "till" := by
  cases st <;> first | (cases h; done) | (simp only [Stp.word]; decide +kernel)
theorem MS.stp_eff {m : MS} {a o : Int} {R : Option (Int × Int × Str) → MS → Int → Int → Prop} {st : Stp} (h : st.eff = true) : m.stp a o R st = (m.on = true ∧ m.tn + 1000 < 10000000 ∧ m.eff (fun m' => R none m' a o) st) := by
  cases st <;> first | rfl | (cases h; done)
theorem newk (ad : Ro → Addr) : AdKeep ad ad := fun _ _ _ => rfl
def sp_play_step (K : PySem.W.Frag) : Sp := fun vs H Q _ => ∃ (H0 : Hp) (ad : Ro → Addr) (m : MS) (c sa : Addr) (a o : Int) (st : Stp), vs = [.ref (ad .bench), .ref c, .ref sa] ∧ MC K H0 ad m c a o H ∧ H0 sa = some (.tup st.vals) ∧
  m.stp a o (fun ref m' a' o' => ∀ (ad' : Ro → Addr) (v : V) (H' : Hp), AdKeep ad ad' → MC K H0 ad' m' c a' o' H' → RefV H' v ref → Q v H') st
theorem sc_play_step : FnScope ["bench", "course", "step", "word"] ["bench", "course", "step"] (defScope s_play_step) := ⟨rfl, rfl, rfl, by decide +kernel, rfl, by decide +kernel, by decide +kernel⟩
theorem ok_play_step {P : Program} {w : World} {K : PySem.W.Frag} {mg : Str → Option Value} {base : Heap} (T : Txt w K mg) : FnOk P w K mg base CX0 9 (ad_play_step K) (fdOf K (ad_play_step K)) ["bench", "course", "step"] (sp_play_step K) := by
  have C_begin_round := cal_begin_round (P := P) (base := base) T
  have C_next_strip := cal_next_strip (P := P) (base := base) T
  have C_trim_strip := cal_trim_strip (P := P) (base := base) T
  have C_stop_refusal := cal_stop_refusal (P := P) (base := base) T
  have C_play_effect := cal_play_effect (P := P) (base := base) T
  refine T.f_play_step.ok sc_play_step (fun vs H Q E h => ?_) (fun cdv A outer s H vs Q E hr h => ?_)
  · obtain ⟨_, _, _, _, _, _, _, _, rfl, _⟩ := h
    rfl
  · have hu := hu_of hr
    have nd := sc_play_step.nd
    refine ⟨_, PSs.nox ((pss_cons (ps_set (i := 3) nd rfl (Or.inl rfl) (pe_ix ix_tup (pv 2) pe_int (fun _ _ => rfl)))
      (pss_cons (ps_if (pt_cmpR op_eq (pv 3) pe_str (nomark _))
      (pss_one (ps_expr (pe_cl C_begin_round (hr.mono (by decide)) (pa_cons (pv 0) (pa_cons (pv 1) (pa_cons (pv 2) pa_nil))))))
      (pss_one (ps_if (pt_cmpR op_eq (pv 3) pe_str (nomark _))
      (pss_one (ps_expr (pe_cl C_next_strip (hr.mono (by decide)) (pa_cons (pv 0) (pa_cons (pv 1) pa_nil)))))
      (pss_one (ps_if (pt_cmpR op_eq (pv 3) pe_str (nomark _))
      (pss_one (ps_expr (pe_cl C_trim_strip (hr.mono (by decide)) (pa_cons (pv 0) pa_nil))))
      (pss_one (ps_if (pt_cmpR op_eq (pv 3) pe_str (nomark _))
      (pss_one (ps_ret (pe_cl C_stop_refusal (hr.mono (by decide)) (pa_cons (pv 0) (pa_cons (pv 2) pa_nil)))))
      (pss_one (ps_if (pt_cmpR op_eq (pv 3) pe_str (nomark _))
      (pss_one ps_never)
      (pss_one (ps_if (pt_cmpR op_eq (pv 3) pe_str (nomark _))
      (pss_one ps_never)
      (pss_one (ps_if (pt_cmpR op_eq (pv 3) pe_str (nomark _))
      (pss_one ps_never)
      (pss_one (ps_expr (pe_cl C_play_effect (hr.mono (by decide)) (pa_cons (pv 0) (pa_cons (pv 2) pa_nil))))))))))))))))))
      (pss_one (ps_ret pe_non))))), ?_⟩
    obtain ⟨H0, ad, m, c, sa, a, o, st, rfl, M, hs, hE⟩ := h
    have hsT := M.b.tup hs
    have hs' : offH ad m.on H sa = some (.tup st.vals) := M.b.back _ _ hs
    have ne : ∀ {x : Str}, st.word ≠ x → ¬ V.str st.word = V.str x := fun h z => h (V.str.inj z)
    refine ⟨_, rfl, _, _, _, _, rfl, rfl, hsT, st.at0, ?_⟩
    cases he : st.eff with
    | true =>
      obtain ⟨n1, n2, n3, n4, n5, n6, n7⟩ := Stp.eff_ne he
      rw [MS.stp_eff he] at hE
      obtain ⟨on, ht, hE⟩ := hE
      refine ⟨_, rfl, rfl, _, rfl, iteDF (ne n1) ?_⟩
      refine ⟨_, rfl, rfl, _, rfl, iteDF (ne n2) ?_⟩
      refine ⟨_, rfl, rfl, _, rfl, iteDF (ne n3) ?_⟩
      refine ⟨_, rfl, rfl, _, rfl, iteDF (ne n4) ?_⟩
      refine ⟨_, rfl, rfl, _, rfl, iteDF (ne n5) ?_⟩
      refine ⟨_, rfl, rfl, _, rfl, iteDF (ne n6) ?_⟩
      refine ⟨_, rfl, rfl, _, rfl, iteDF (ne n7) ?_⟩
      refine ⟨_, rfl, _, rfl, _, ad, m, sa, st, rfl, M.b.rebase, on, hs', ht, MS.eff_mono (fun m' r H' B' => ?_) hE⟩
      exact r ad .non H' (newk ad) (M.step B') rfl
    | false =>
      cases st with
      | begin many g =>
        obtain ⟨rfl, hm, hB⟩ := hE
        refine ⟨_, rfl, rfl, _, rfl, iteDT rfl ?_⟩
        exact ⟨_, rfl, _, rfl, _, rfl, H0, ad, m, c, sa, a, o, many, rfl, M, hs, hm, fun ad' ma' H' h1 h2 h3 M' => hB ma' h2 h3 ad' .non H' h1 M' rfl⟩
      | next =>
        obtain ⟨on, hN, hB⟩ := hE
        refine ⟨_, rfl, rfl, _, rfl, iteDF (wne (b := "next") rfl (by decide +kernel)) ?_⟩
        refine ⟨_, rfl, rfl, _, rfl, iteDT rfl ?_⟩
        exact ⟨_, rfl, _, rfl, H0, ad, m, c, a, o, 0, rfl, M, on, fun h => hN h ad .non H (newk ad) M rfl, fun h ad' ma' H' h1 h2 h3 M' => hB h ma' h2 h3 ad' .non H' h1 M' rfl⟩
      | trim =>
        obtain ⟨on, hC, hF, hN⟩ := hE
        refine ⟨_, rfl, rfl, _, rfl, iteDF (wne (b := "trim") rfl (by decide +kernel)) ?_⟩
        refine ⟨_, rfl, rfl, _, rfl, iteDF (wne (b := "trim") rfl (by decide +kernel)) ?_⟩
        refine ⟨_, rfl, rfl, _, rfl, iteDT rfl ?_⟩
        exact ⟨_, rfl, _, ad, m, rfl, M.b.rebase, on, hC, fun c' h1 h2 h3 H' B' => hF c' h1 h2 h3 ad .non H' (newk ad) (M.step B') rfl, fun h H' B' => hN h ad .non H' (newk ad) (M.step B') rfl⟩
      | stop n =>
        obtain ⟨on, hN, hF⟩ := hE
        refine ⟨_, rfl, rfl, _, rfl, iteDF (wne (b := "stop") rfl (by decide +kernel)) ?_⟩
        refine ⟨_, rfl, rfl, _, rfl, iteDF (wne (b := "stop") rfl (by decide +kernel)) ?_⟩
        refine ⟨_, rfl, rfl, _, rfl, iteDF (wne (b := "stop") rfl (by decide +kernel)) ?_⟩
        refine ⟨_, rfl, rfl, _, rfl, iteDT rfl ?_⟩
        refine ⟨_, rfl, _, rfl, H0, ad, m, sa, n, rfl, M.b, on, hs, fun h => hN h ad .non H (newk ad) M rfl, fun c' f h1 h2 p H' hp s1 h3 => ?_⟩
        refine hF c' f h1 h2 ad (.ref p) H' (newk ad) ?_ ⟨p, rfl, h3⟩
        obtain ⟨dx, t, hc⟩ := M.co
        exact ⟨M.b.sm s1, ⟨dx, t, s1 _ _ hc⟩, M.off, M.new⟩
      | _ => cases he
theorem cal_play_step {P : Program} {w : World} {K : PySem.W.Frag} {mg : Str → Option Value} {base : Heap} (T : Txt w K mg) : Cal P w K mg base 9 "play_step" ["bench", "course", "step"] (sp_play_step K) := ⟨_, _, ok_play_step T, T.g_play_step, T.f_play_step.kp, T.f_play_step.bindsN (ps := ["bench", "course", "step"]) fun _ _ _ _ _ _ us hl => match us, hl with | [_, _, _], _ => rfl⟩
end Rb
end

section
set_option Elab.async false
set_option linter.all false
set_option maxRecDepth 100000
set_option maxHeartbeats 4000000
namespace Rb
open PySem PySem.Spec PyProof.Rows L2

theorem inj_of {ok : Ro → Bool} {ad : Ro → Addr} (τ : Ro → Nat) (G : Nat → Hp) (born : ∀ r, ok r = true → 0 < τ r → G (τ r) (ad r) = none) (alive : ∀ r, ok r = true → ∃ o, G (τ r + 1) (ad r) = some o)
    (mono : ∀ t b o, G t b = some o → ∃ o', G (t + 1) b = some o') (same : ∀ r r', ok r = true → ok r' = true → τ r = τ r' → ad r = ad r' → r = r') : ∀ r r', ok r = true → ok r' = true → ad r = ad r' → r = r' := by
  have later : ∀ d t b o, G t b = some o → ∃ o', G (t + d) b = some o' := by
    intro d
    induction d with
    | zero => intro t b o h; exact ⟨o, h⟩
    | succ d ih =>
      intro t b o h
      obtain ⟨o', h'⟩ := ih t b o h
      exact mono (t + d) b o' h'
  have lt : ∀ r r', ok r = true → ok r' = true → ad r = ad r' → ¬ τ r < τ r' := fun r r' h h' e hl => by
    obtain ⟨o, ho⟩ := alive r h
    obtain ⟨o', ho'⟩ := later (τ r' - (τ r + 1)) (τ r + 1) (ad r) o ho
    have e2 : τ r + 1 + (τ r' - (τ r + 1)) = τ r' := by omega
    rw [e2, e, born r' h' (by omega)] at ho'
    cases ho'
  intro r r' h h' e
  have h1 := lt r r' h h' e
  have h2 := lt r' r h' h e.symm
  exact same r r' h h' (by omega) e
def stamp : Ro → Nat
  | .bench => 0
  | .lens => 1
  | .cells => 2
  | .boxesO => 3
  | .boxesL => 4
  | .box _ => 4
  | .masksL => 5
  | .mask _ => 5
  | .slotsL => 6
  | .slot _ => 6
  | .dustO => 7
  | .dustL => 8
  | .picksO => 9
  | .picksL => 10
  | .touch => 11
  | .strip => 12
  | .flts => 12
/-- the bench as it is made -/
def MS.made (g lanes : Nat) (len : List Nat) (rc : Nat → Nat → Int) : MS :=
  { g := g, lanes := lanes, len := len, rc := rc, sn := fun _ _ => 0, ma := fun _ _ => false, sl := fun _ _ => 0, tn := 0, car := none, on := false, many := 0, base := 0, began := 0, width := 0, fl := fun _ => none, cut := none }
/-- all but p stays -/
def Bt (p : Addr) (H H' : Hp) : Prop := ∀ b o, b ≠ p → H b = some o → H' b = some o
theorem Bt.trans {p : Addr} {H H1 H2 : Hp} (a : Bt p H H1) (b : Bt p H1 H2) : Bt p H H2 := fun x o h e => b x o h (a x o h e)
theorem nd_get {as : List Addr} (nd : as.Nodup) {i j : Nat} (hi : i < as.length) (hj : j < as.length) (e : as.getD i 0 = as.getD j 0) : i = j := by
  rw [List.getD_eq_getElem?_getD, List.getD_eq_getElem?_getD, List.getElem?_eq_getElem hi, List.getElem?_eq_getElem hj] at e
  exact (List.getElem_inj nd).mp e
theorem getD_mem {as : List Addr} {i : Nat} (hi : i < as.length) : as.getD i 0 ∈ as := by
  rw [List.getD_eq_getElem?_getD, List.getElem?_eq_getElem hi]
  exact List.getElem_mem hi
theorem getD_get {as : List Addr} {i : Nat} (hi : i < as.length) : as[i]? = some (as.getD i 0) := by
  rw [List.getD_eq_getElem?_getD, List.getElem?_eq_getElem hi]
  rfl
theorem refs_range {as : List Addr} {n : Nat} (h : as.length = n) : as.map V.ref = (List.range n).map fun i => V.ref (as.getD i 0) := by
  apply List.ext_getElem?
  intro i
  by_cases hi : i < n
  · rw [rm_get hi, List.getElem?_map, getD_get (by omega)]
    rfl
  · rw [List.getElem?_eq_none (by rw [List.length_map]; omega), List.getElem?_eq_none (by simpa using hi)]
theorem rep_range {v : V} {n : Nat} : List.replicate n v = (List.range n).map fun _ => v := by
  rw [List.map_const', List.length_range]
def adOf (p l1 l2 xB lB : Addr) (asB : List Addr) (DM : Addr) (asM : List Addr) (DS : Addr) (asS : List Addr) (xD lD xP lP lT : Addr) : Ro → Addr
  | .bench => p
  | .lens => l1
  | .cells => l2
  | .boxesO => xB
  | .boxesL => lB
  | .box i => asB.getD i 0
  | .masksL => DM
  | .mask i => asM.getD i 0
  | .slotsL => DS
  | .slot i => asS.getD i 0
  | .dustO => xD
  | .dustL => lD
  | .picksO => xP
  | .picksL => lP
  | .touch => lT
  | .strip => 0
  | .flts => 0
/-- the bench made of its parts -/
theorem BA.build {K : PySem.W.Frag} {H0 H : Hp} {g lanes : Nat} {len : List Nat} {rc : Nat → Nat → Int} {dst pst : List Int} (wf : (MS.made g lanes len rc).WF) (hdk : ∀ n ∈ dst, KR n) (hdl : dst.length ≤ 1000) (hpl : pst.length ≤ 1000)
    {p l1 l2 xB lB DM DS xD lD xP lP lT dx dB dD dP : Addr} {asB asM asS : List Addr} (G : Nat → Hp)
    (mono : ∀ t b o, G t b = some o → ∃ o', G (t + 1) b = some o')
    (b0 : ∃ o, G 1 p = some o) (b1 : G 1 l1 = none) (c1 : ∃ o, G 2 l1 = some o) (b2 : G 2 l2 = none) (c2 : ∃ o, G 3 l2 = some o) (b3 : G 3 xB = none) (c3 : ∃ o, G 4 xB = some o)
    (b4 : G 4 lB = none) (c4 : ∃ o, G 5 lB = some o) (b4' : ∀ a ∈ asB, G 4 a = none) (c4' : ∀ a ∈ asB, ∃ o, G 5 a = some o) (ndB : asB.Nodup) (nB : lB ∉ asB) (lnB : asB.length = 8)
    (b5 : G 5 DM = none) (c5 : ∃ o, G 6 DM = some o) (b5' : ∀ a ∈ asM, G 5 a = none) (c5' : ∀ a ∈ asM, ∃ o, G 6 a = some o) (ndM : asM.Nodup) (nM : DM ∉ asM) (lnM : asM.length = 16)
    (b6 : G 6 DS = none) (c6 : ∃ o, G 7 DS = some o) (b6' : ∀ a ∈ asS, G 6 a = none) (c6' : ∀ a ∈ asS, ∃ o, G 7 a = some o) (ndS : asS.Nodup) (nS : DS ∉ asS) (lnS : asS.length = 60)
    (b7 : G 7 xD = none) (c7 : ∃ o, G 8 xD = some o) (b8 : G 8 lD = none) (c8 : ∃ o, G 9 lD = some o) (b9 : G 9 xP = none) (c9 : ∃ o, G 10 xP = some o) (b10 : G 10 lP = none) (c10 : ∃ o, G 11 lP = some o)
    (b11 : G 11 lT = none) (c11 : ∃ o, G 12 lT = some o)
    (s0 : Same H0 (G 1)) (h0p : H0 p = none) (sm : ∀ b o, H0 b = some o → H b = some o)
    (f0 : H p = some (.ins (He.ga K "Bench") dx [("lengths", .ref l1), ("cells", .ref l2), ("lanes", .int lanes), ("boxes", .ref xB), ("masks", .ref DM), ("slots", .ref DS), ("dust", .ref xD), ("picks", .ref xP), ("place", .int 0), ("touches", .ref lT), ("now", .non), ("carried", .non), ("raised", .bl false)]))
    (f1 : H l1 = some (.lst (len.map fun (n : Nat) => V.int (n : Int)))) (f2 : H l2 = some (.lst ((flat len 0 rc).map V.int))) (f3 : H xB = some (.ins (He.ga K "Boxes") dB (boxF lanes lB))) (f4 : H lB = some (.lst (asB.map V.ref)))
    (f4' : ∀ a ∈ asB, H a = some (.lst (List.replicate lanes (V.int 0)))) (f5 : H DM = some (.lst (asM.map V.ref))) (f5' : ∀ a ∈ asM, H a = some (.lst (List.replicate (4 * lanes) (V.bl false)))) (f6 : H DS = some (.lst (asS.map V.ref))) (f6' : ∀ a ∈ asS, H a = some (.lst (List.replicate (4 * lanes) (V.int 0))))
    (f7 : H xD = some (.ins (He.ga K "Feed") dD (feedF lD 0))) (f8 : H lD = some (.lst (dst.map V.int))) (f9 : H xP = some (.ins (He.ga K "Feed") dP (feedF lP 0))) (f10 : H lP = some (.lst (pst.map V.int))) (f11 : H lT = some (.lst [])) :
    BA K H0 (adOf p l1 l2 xB lB asB DM asM DS asS xD lD xP lP lT) (MS.made g lanes len rc) H := by
  refine ⟨wf, ⟨fun r => match r with | .bench => dx | .boxesO => dB | .dustO => dD | .picksO => dP | _ => 0, 0, dst, 0, pst, 0, [], []⟩, ⟨Nat.le_refl _, Nat.le_refl _, fun j => rfl, ?_, hdk, hdl, ?_, hpl⟩, ?_⟩
  · cases dst with
    | nil => exact .inl rfl
    | cons a r => exact .inr (Nat.succ_pos _)
  · cases pst with
    | nil => exact .inl rfl
    | cons a r => exact .inr (Nat.succ_pos _)
  have later : ∀ d t b o, G t b = some o → ∃ o', G (t + d) b = some o' := by
    intro d
    induction d with
    | zero => intro t b o h; exact ⟨o, h⟩
    | succ d ih =>
      intro t b o h
      obtain ⟨o', h'⟩ := ih t b o h
      exact mono (t + d) b o' h'
  have offH0 : ∀ t b, 1 ≤ t → G t b = none → H0 b = none := fun t b ht hb => by
    cases e : H0 b with
    | none => rfl
    | some o =>
      obtain ⟨o', h'⟩ := later (t - 1) 1 b o (s0 b o e)
      have e2 : 1 + (t - 1) = t := by omega
      rw [e2, hb] at h'
      cases h'
  refine ⟨inj_of stamp G ?_ ?_ mono ?_, ?_, ?_, sm⟩
  · intro r hr h0
    cases r with
    | bench => exact absurd h0 (by decide)
    | lens => exact b1
    | cells => exact b2
    | boxesO => exact b3
    | boxesL => exact b4
    | box i => exact b4' _ (getD_mem (by rw [lnB]; exact of_decide_eq_true hr))
    | masksL => exact b5
    | mask i => exact b5' _ (getD_mem (by rw [lnM]; exact of_decide_eq_true hr))
    | slotsL => exact b6
    | slot i => exact b6' _ (getD_mem (by rw [lnS]; exact of_decide_eq_true hr))
    | dustO => exact b7
    | dustL => exact b8
    | picksO => exact b9
    | picksL => exact b10
    | touch => exact b11
    | strip => cases hr
    | flts => cases hr
  · intro r hr
    cases r with
    | bench => exact b0
    | lens => exact c1
    | cells => exact c2
    | boxesO => exact c3
    | boxesL => exact c4
    | box i => exact c4' _ (getD_mem (by rw [lnB]; exact of_decide_eq_true hr))
    | masksL => exact c5
    | mask i => exact c5' _ (getD_mem (by rw [lnM]; exact of_decide_eq_true hr))
    | slotsL => exact c6
    | slot i => exact c6' _ (getD_mem (by rw [lnS]; exact of_decide_eq_true hr))
    | dustO => exact c7
    | dustL => exact c8
    | picksO => exact c9
    | picksL => exact c10
    | touch => exact c11
    | strip => cases hr
    | flts => cases hr
  · intro r r' hr hr' e1 e2
    cases r with
    | box i =>
      have hi : i < asB.length := by rw [lnB]; exact of_decide_eq_true hr
      cases r' with
      | box j => rw [nd_get ndB hi (by rw [lnB]; exact of_decide_eq_true hr') e2]
      | boxesL => exact (nB (by rw [← show _ = lB from e2]; exact getD_mem hi)).elim
      | _ => cases e1
    | boxesL =>
      cases r' with
      | box j => exact (nB (by rw [show lB = _ from e2]; exact getD_mem (by rw [lnB]; exact of_decide_eq_true hr'))).elim
      | boxesL => rfl
      | _ => cases e1
    | mask i =>
      have hi : i < asM.length := by rw [lnM]; exact of_decide_eq_true hr
      cases r' with
      | mask j => rw [nd_get ndM hi (by rw [lnM]; exact of_decide_eq_true hr') e2]
      | masksL => exact (nM (by rw [← show _ = DM from e2]; exact getD_mem hi)).elim
      | _ => cases e1
    | masksL =>
      cases r' with
      | mask j => exact (nM (by rw [show DM = _ from e2]; exact getD_mem (by rw [lnM]; exact of_decide_eq_true hr'))).elim
      | masksL => rfl
      | _ => cases e1
    | slot i =>
      have hi : i < asS.length := by rw [lnS]; exact of_decide_eq_true hr
      cases r' with
      | slot j => rw [nd_get ndS hi (by rw [lnS]; exact of_decide_eq_true hr') e2]
      | slotsL => exact (nS (by rw [← show _ = DS from e2]; exact getD_mem hi)).elim
      | _ => cases e1
    | slotsL =>
      cases r' with
      | slot j => exact (nS (by rw [show DS = _ from e2]; exact getD_mem (by rw [lnS]; exact of_decide_eq_true hr'))).elim
      | slotsL => rfl
      | _ => cases e1
    | strip => cases hr
    | flts => cases hr
    | _ => cases r' <;> first | rfl | (cases e1; done)
  · intro r hr
    cases r with
    | bench => exact h0p
    | lens => exact offH0 1 _ (by decide) b1
    | cells => exact offH0 2 _ (by decide) b2
    | boxesO => exact offH0 3 _ (by decide) b3
    | boxesL => exact offH0 4 _ (by decide) b4
    | box i => exact offH0 4 _ (by decide) (b4' _ (getD_mem (by rw [lnB]; exact of_decide_eq_true hr)))
    | masksL => exact offH0 5 _ (by decide) b5
    | mask i => exact offH0 5 _ (by decide) (b5' _ (getD_mem (by rw [lnM]; exact of_decide_eq_true hr)))
    | slotsL => exact offH0 6 _ (by decide) b6
    | slot i => exact offH0 6 _ (by decide) (b6' _ (getD_mem (by rw [lnS]; exact of_decide_eq_true hr)))
    | dustO => exact offH0 7 _ (by decide) b7
    | dustL => exact offH0 8 _ (by decide) b8
    | picksO => exact offH0 9 _ (by decide) b9
    | picksL => exact offH0 10 _ (by decide) b10
    | touch => exact offH0 11 _ (by decide) b11
    | strip => cases hr
    | flts => cases hr
  · intro r hr
    cases r with
    | bench => exact f0
    | lens => exact f1
    | cells => exact f2
    | boxesO => exact f3
    | boxesL => exact f4.trans (by rw [refs_range lnB]; rfl)
    | box i => exact (f4' _ (getD_mem (by rw [lnB]; exact of_decide_eq_true hr))).trans (by rw [rep_range]; rfl)
    | masksL => exact f5.trans (by rw [refs_range lnM]; rfl)
    | mask i => exact (f5' _ (getD_mem (by rw [lnM]; exact of_decide_eq_true hr))).trans (by rw [rep_range]; rfl)
    | slotsL => exact f6.trans (by rw [refs_range lnS]; rfl)
    | slot i => exact (f6' _ (getD_mem (by rw [lnS]; exact of_decide_eq_true hr))).trans (by rw [rep_range]; rfl)
    | dustO => exact f7
    | dustL => exact f8
    | picksO => exact f9
    | picksL => exact f10
    | touch => exact f11
    | strip => cases hr
    | flts => cases hr

end Rb
end

section
set_option Elab.async false
set_option linter.all false
set_option maxRecDepth 100000
set_option maxHeartbeats 4000000
namespace Rb
open PySem PySem.Spec PyProof.Rows L2

theorem b_store {w : World} {K : PySem.W.Frag} {mg : Str → Option Value} (T : Txt w K mg) {H : Hp} {p dx : Addr} {fs : List (Str × V)} {f : Str} {y : V} {R : Hp → Prop} (hp : H p = some (.ins (He.ga K "Bench") dx fs)) (hl : fs.length < 1000) (na : NoAttr K (He.ga K "Bench") f)
    (k : ∀ G, G p = some (.ins (He.ga K "Bench") dx (putF f y fs)) → Bt p H G → R G) : ∃ a C dx' fs', V.ref p = .ref a ∧ H a = some (.ins C dx' fs') ∧ Cls K C ∧ NoAttr K C f ∧ fs'.length < 1000 ∧ R (upd H a (.ins C dx' (putF f y fs'))) :=
  ⟨_, _, _, _, rfl, hp, T.cl_Bench, na, hl, k _ upd_same fun b o hb e => by rw [upd_ne hb]; exact e⟩
theorem bt_new {p l : Addr} {H : Hp} {o : HO} (h : H l = none) : Bt p H (upd H l o) := fun b u _ e => same_new h b u e
theorem bt_same {p : Addr} {H H' : Hp} (h : Same H H') : Bt p H H' := fun b u _ e => h b u e
theorem bt_mono {p : Addr} {H H' : Hp} {i : HO} (t : Bt p H H') (h : H' p = some i) : ∀ b o, H b = some o → ∃ o', H' b = some o' := fun b o e => by
  by_cases z : b = p
  · rw [z]
    exact ⟨i, h⟩
  · exact ⟨o, t b o z e⟩
/-- behind the making of an object at x and the store at p -/
theorem made_mono {p x : Addr} {H H1 H2 : Hp} {i : HO} (h : ∀ b o, b ≠ x → H b = some o → H1 b = some o) (hx : ∃ o, H1 x = some o) (t : Bt p H1 H2) (hp : H2 p = some i) : ∀ b o, H b = some o → ∃ o', H2 b = some o' := fun b o e => by
  by_cases z : b = x
  · rw [z]
    obtain ⟨o', h'⟩ := hx
    exact bt_mono t hp x o' h'
  · exact bt_mono t hp b o (h b o z e)
def seqH (a b c d e f g h i j k l : Hp) : Nat → Hp
  | 0 => a
  | 1 => a
  | 2 => b
  | 3 => c
  | 4 => d
  | 5 => e
  | 6 => f
  | 7 => g
  | 8 => h
  | 9 => i
  | 10 => j
  | 11 => k
  | _ => l
def sp_Bench_init (K : PySem.W.Frag) : Sp := fun vs H Q _ => ∃ (H0 : Hp) (p dx la ca da pa : Addr) (g lanes : Nat) (len : List Nat) (rc : Nat → Nat → Int) (dst : List Int), ∃ (pst : List Int), vs = [.ref p, .ref la, .ref ca, .int lanes, .ref da, .ref pa] ∧ H p = some (.ins (He.ga K "Bench") dx []) ∧
  SqL K H la (len.map fun (n : Nat) => V.int (n : Int)) ∧ SqL K H ca ((flat len 0 rc).map V.int) ∧ SqL K H da (dst.map V.int) ∧ SqL K H pa (pst.map V.int) ∧ p ≠ la ∧ p ≠ ca ∧ p ≠ da ∧ p ≠ pa ∧ Same H0 H ∧ H0 p = none ∧ (MS.made g lanes len rc).WF ∧ (∀ n ∈ dst, KR n) ∧ dst.length ≤ 1000 ∧ pst.length ≤ 1000 ∧
  ∀ (ad : Ro → Addr) (H' : Hp), ad .bench = p → BA K H0 ad (MS.made g lanes len rc) H' → Q .non H'
theorem sc_Bench_init : FnScope ["self", "lengths", "cells", "lanes", "dust", "picks", "mask", "slot"] ["self", "lengths", "cells", "lanes", "dust", "picks"] (defScope s_Bench_init) := ⟨rfl, rfl, rfl, by decide +kernel, rfl, by decide +kernel, by decide +kernel⟩
theorem ok_Bench_init {P : Program} {w : World} {K : PySem.W.Frag} {mg : Str → Option Value} {base : Heap} (T : Txt w K mg) : FnOk P w K mg base CX0 3 (ad_Bench_init K) (fdOf K (ad_Bench_init K)) ["self", "lengths", "cells", "lanes", "dust", "picks"] (sp_Bench_init K) := by
  have C_Feed_init := cal_Feed_init (P := P) (base := base) T
  have C_Boxes_init := cal_Boxes_init (P := P) (base := base) T
  refine T.f_Bench_init.ok sc_Bench_init (fun vs H Q E h => ?_) (fun cdv A outer s H vs Q E hr h => ?_)
  · obtain ⟨_, _, _, _, _, _, _, _, _, _, _, _, _, rfl, _⟩ := h
    rfl
  · have hu := hu_of hr
    have nd := sc_Bench_init.nd
    refine ⟨_, PSs.nox ((pss_cons (ps_fld (pv 0) (pe_callTy call_list_of rfl T.b_list (by decide +kernel) (pa_cons (pv 1) pa_nil)) rfl)
      (pss_cons (ps_fld (pv 0) (pe_callTy call_list_of rfl T.b_list (by decide +kernel) (pa_cons (pv 2) pa_nil)) rfl)
      (pss_cons (ps_fld (pv 0) (pv 3) rfl)
      (pss_cons (ps_fld (pv 0) (pe_clc C_Boxes_init (hr.mono (by decide)) (pa_cons (pv 3) pa_nil)) rfl)
      (pss_cons (ps_fld (pv 0) (pe_lc (own := [("mask", 6)]) (g := gName 6) rfl nd (pi_range1 rfl T.b_range (pa_cons pe_int pa_nil)) (blkOk_by (N := ["self", "lengths", "cells", "lanes", "dust", "picks", "mask", "slot"]) (sc := defScope s_Bench_init) (by decide +kernel)) (fun _ _ _ _ _ => pg_name (i := 6) nd rfl (Or.inl rfl)) (fun _ _ _ _ _ => pts_nil) (fun _ _ _ _ _ => (pe_op op_rep (pe_lst (pa_cons pe_bl pa_nil)) (pe_op op_mul pe_int (pv 3))))) rfl)
      (pss_cons (ps_fld (pv 0) (pe_lc (own := [("slot", 7)]) (g := gName 7) rfl nd (pi_range1 rfl T.b_range (pa_cons pe_int pa_nil)) (blkOk_by (N := ["self", "lengths", "cells", "lanes", "dust", "picks", "mask", "slot"]) (sc := defScope s_Bench_init) (by decide +kernel)) (fun _ _ _ _ _ => pg_name (i := 7) nd rfl (Or.inl rfl)) (fun _ _ _ _ _ => pts_nil) (fun _ _ _ _ _ => (pe_op op_rep (pe_lst (pa_cons pe_int pa_nil)) (pe_op op_mul pe_int (pv 3))))) rfl)
      (pss_cons (ps_fld (pv 0) (pe_clc C_Feed_init (hr.mono (by decide)) (pa_cons (pv 4) pa_nil)) rfl)
      (pss_cons (ps_fld (pv 0) (pe_clc C_Feed_init (hr.mono (by decide)) (pa_cons (pv 5) pa_nil)) rfl)
      (pss_cons (ps_fld (pv 0) pe_int rfl)
      (pss_cons (ps_fld (pv 0) (pe_lst pa_nil) rfl)
      (pss_cons (ps_fld (pv 0) pe_non rfl)
      (pss_cons (ps_fld (pv 0) pe_non rfl)
      (pss_one (ps_fld (pv 0) pe_bl rfl))))))))))))))), ?_⟩
    obtain ⟨H0, p, dx, la, ca, da, pa, g, lanes, len, rc, dst, pst, rfl, hp, hLa, hCa, hDa, hPa, n1, n2, n3, n4, s0, h0p, wf, hdk, hdl, hpl, kQ⟩ := h
    have bsq : ∀ {G : Hp} {a : Addr} {xs : List V}, Bt p H G → p ≠ a → SqL K H a xs → SqL K G a xs := fun {G a xs} t ne hq => by
      rcases hq with (h | ⟨o, h⟩) | h
      · exact .inl (.inl (t _ _ ne.symm h))
      · exact .inl (.inr ⟨o, t _ _ ne.symm h⟩)
      · exact .inr h
    have l2 : lanes ≤ 64 := wf.l2
    -- self.lengths = list(lengths)
    refine ⟨_, rfl, la, _, rfl, .inl hLa, fun l1 b1 => ?_⟩
    have np1 : p ≠ l1 := ne_of_none hp b1
    refine ⟨_, rfl, b_store T (dx := dx) (fs := []) (by rw [upd_ne np1]; exact hp) (by decide) T.n_Bench_lengths fun G2 q2 t2 => ?_⟩
    have f1 := t2 _ _ np1.symm upd_same
    have u2 : Bt p H G2 := (bt_new b1).trans t2
    -- self.cells = list(cells)
    refine ⟨_, rfl, ca, _, rfl, .inl (bsq u2 n2 hCa), fun lc b2 => ?_⟩
    have np2 : p ≠ lc := ne_of_none q2 b2
    refine ⟨_, rfl, b_store T (by rw [upd_ne np2]; exact q2) (by show 1 < 1000; decide) T.n_Bench_cells fun G3 q3 t3 => ?_⟩
    have f2 := t3 _ _ np2.symm upd_same
    have u3 : Bt p G2 G3 := (bt_new b2).trans t3
    -- self.lanes = lanes
    refine ⟨_, rfl, _, rfl, b_store T q3 (by show 2 < 1000; decide) T.n_Bench_lanes fun G3b q3b t3b => ?_⟩
    -- self.boxes = Boxes(lanes)
    refine ⟨_, rfl, ?_⟩
    intro xB dB bX bDB neB
    have npX : p ≠ xB := ne_of_none q3b bX
    have sB : Same G3b (upd (upd G3b dB (.own xB)) xB (.ins (He.ga K "Boxes") dB [])) := same_upd (same_new bDB) bX
    refine ⟨xB, dB, lanes, rfl, upd_same, by omega, fun lB asB G5a b4 lnB ndB nB b4' g3 g4 g5 g6 => ⟨rfl, ?_⟩⟩
    have sB2 : Same G3b G5a := fun b o e => g6 b o (ne_of_none e bX) (sB b o e)
    have q5a := sB2 _ _ q3b
    refine ⟨_, rfl, b_store T q5a (by show 3 < 1000; decide) T.n_Bench_boxes fun G5 q5 t5 => ?_⟩
    have npl : ∀ {a : Addr}, upd (upd G3b dB (.own xB)) xB (.ins (He.ga K "Boxes") dB []) a = none → p ≠ a := fun h z => by rw [← z, sB _ _ q3b] at h; cases h
    have f3 := t5 _ _ npX.symm g3
    have f4 := t5 _ _ (npl b4).symm g4
    have f4' : ∀ a ∈ asB, G5 a = some (.lst (List.replicate lanes (V.int 0))) := fun a ha => t5 _ _ (npl (b4' a ha)).symm (g5 a ha)
    -- self.masks = [[False] * (4 * lanes) for mask in range(16)]
    refine ⟨_, rfl, by decide, by decide, fun DM b5 => ?_⟩
    refine comp_rangeA b5 (fun _ => .lst (List.replicate (4 * lanes) (V.bl false))) (by decide) (fun i H' hi s1 Q' q => ?_) (fun G6a asM s6 h6 lnM ndM nM h6' => ?_)
    · refine ⟨(by show 1 ≤ sizeLine; decide), fun z hz => ?_⟩
      refine ⟨_, rfl, _, _, rfl, rfl, cm (by omega), ?_⟩
      refine ⟨z, _, _, rfl, rfl, upd_same, Int.le_trans (by decide) (show (0 : Int) ≤ 4 * (lanes : Int) by omega), Int.lt_of_le_of_lt (show (4 * (lanes : Int)) ≤ 256 by omega) (by decide), sz_le (by show 1 * (4 * (lanes : Int)).toNat ≤ 1000000; omega), fun y hy => ?_⟩
      have nzy : z ≠ y := fun e => by rw [← e, upd_same] at hy; cases hy
      have hy0 : H' y = none := by rw [upd_ne nzy.symm] at hy; exact hy
      refine q y _ hy0 (fun b o e => ?_) ?_
      · rw [upd_ne (ne_of_none e hy0), upd_ne (ne_of_none e hz)]
        exact e
      · rw [upd_same]
        congr 2
        have e4 : (4 * (lanes : Int)).toNat = 4 * lanes := by omega
        rw [e4]
        simp
    have q6a := s6 _ _ q5
    have npM : p ≠ DM := ne_of_none q5 b5
    have npM' : ∀ a ∈ asM, p ≠ a := fun a ha => by
      obtain ⟨j, hj⟩ := List.mem_iff_getElem?.mp ha
      exact ne_of_none q5 (h6' j a hj).1
    refine ⟨_, rfl, b_store T q6a (by show 4 < 1000; decide) T.n_Bench_masks fun G6 q6 t6 => ?_⟩
    have f5 := t6 _ _ npM.symm h6
    have f5' : ∀ a ∈ asM, G6 a = some (.lst (List.replicate (4 * lanes) (V.bl false))) := fun a ha => by
      obtain ⟨j, hj⟩ := List.mem_iff_getElem?.mp ha
      exact t6 _ _ (npM' a ha).symm (h6' j a hj).2
    have b5' : ∀ a ∈ asM, G5 a = none := fun a ha => by
      obtain ⟨j, hj⟩ := List.mem_iff_getElem?.mp ha
      exact (h6' j a hj).1
    have u6 : Bt p G5 G6 := (bt_same s6).trans t6
    -- self.slots = [[0] * (4 * lanes) for slot in range(60)]
    refine ⟨_, rfl, by decide, by decide, fun DS b6 => ?_⟩
    refine comp_rangeA b6 (fun _ => .lst (List.replicate (4 * lanes) (V.int 0))) (by decide) (fun i H' hi s1 Q' q => ?_) (fun G7a asS s7 h7 lnS ndS nS h7' => ?_)
    · refine ⟨(by show 1 ≤ sizeLine; decide), fun z hz => ?_⟩
      refine ⟨_, rfl, _, _, rfl, rfl, cm (by omega), ?_⟩
      refine ⟨z, _, _, rfl, rfl, upd_same, Int.le_trans (by decide) (show (0 : Int) ≤ 4 * (lanes : Int) by omega), Int.lt_of_le_of_lt (show (4 * (lanes : Int)) ≤ 256 by omega) (by decide), sz_le (by show 1 * (4 * (lanes : Int)).toNat ≤ 1000000; omega), fun y hy => ?_⟩
      have nzy : z ≠ y := fun e => by rw [← e, upd_same] at hy; cases hy
      have hy0 : H' y = none := by rw [upd_ne nzy.symm] at hy; exact hy
      refine q y _ hy0 (fun b o e => ?_) ?_
      · rw [upd_ne (ne_of_none e hy0), upd_ne (ne_of_none e hz)]
        exact e
      · rw [upd_same]
        congr 2
        have e4 : (4 * (lanes : Int)).toNat = 4 * lanes := by omega
        rw [e4]
        simp
    have q7a := s7 _ _ q6
    have npS : p ≠ DS := ne_of_none q6 b6
    have npS' : ∀ a ∈ asS, p ≠ a := fun a ha => by
      obtain ⟨j, hj⟩ := List.mem_iff_getElem?.mp ha
      exact ne_of_none q6 (h7' j a hj).1
    refine ⟨_, rfl, b_store T q7a (by show 5 < 1000; decide) T.n_Bench_slots fun G7 q7 t7 => ?_⟩
    have f6 := t7 _ _ npS.symm h7
    have f6' : ∀ a ∈ asS, G7 a = some (.lst (List.replicate (4 * lanes) (V.int 0))) := fun a ha => by
      obtain ⟨j, hj⟩ := List.mem_iff_getElem?.mp ha
      exact t7 _ _ (npS' a ha).symm (h7' j a hj).2
    have b6' : ∀ a ∈ asS, G6 a = none := fun a ha => by
      obtain ⟨j, hj⟩ := List.mem_iff_getElem?.mp ha
      exact (h7' j a hj).1
    have u7 : Bt p G6 G7 := (bt_same s7).trans t7
    have u5 : Bt p G3 G5 := (t3b.trans (bt_same sB2)).trans t5
    have uall : Bt p H G7 := ((u2.trans u3).trans (u5.trans u6)).trans u7
    -- self.dust = Feed(dust)
    refine ⟨_, rfl, ?_⟩
    intro xD dD b7 bDD neD
    have sD : Same G7 (upd (upd G7 dD (.own xD)) xD (.ins (He.ga K "Feed") dD [])) := same_upd (same_new bDD) b7
    have npD : p ≠ xD := ne_of_none q7 b7
    refine ⟨xD, dD, da, _, rfl, upd_same, sD.seq (bsq uall n3 hDa), fun lD G9a b8 k1 k2 k3 => ⟨rfl, ?_⟩⟩
    have sD2 : Same G7 G9a := fun b o e => k3 b o (ne_of_none e b7) (sD b o e)
    have q9a := sD2 _ _ q7
    have npLD : p ≠ lD := fun z => by rw [← z, sD _ _ q7] at b8; cases b8
    refine ⟨_, rfl, b_store T q9a (by show 6 < 1000; decide) T.n_Bench_dust fun G9 q9 t9 => ?_⟩
    have f7 := t9 _ _ npD.symm k1
    have f8 := t9 _ _ npLD.symm k2
    have u9 : Bt p G7 G9 := (bt_same sD2).trans t9
    -- self.picks = Feed(picks)
    refine ⟨_, rfl, ?_⟩
    intro xP dP b9 bDP neP
    have sP : Same G9 (upd (upd G9 dP (.own xP)) xP (.ins (He.ga K "Feed") dP [])) := same_upd (same_new bDP) b9
    have npP : p ≠ xP := ne_of_none q9 b9
    refine ⟨xP, dP, pa, _, rfl, upd_same, sP.seq (bsq (uall.trans u9) n4 hPa), fun lP G11a b10 m1 m2 m3 => ⟨rfl, ?_⟩⟩
    have sP2 : Same G9 G11a := fun b o e => m3 b o (ne_of_none e b9) (sP b o e)
    have q11a := sP2 _ _ q9
    have npLP : p ≠ lP := fun z => by rw [← z, sP _ _ q9] at b10; cases b10
    refine ⟨_, rfl, b_store T q11a (by show 7 < 1000; decide) T.n_Bench_picks fun G11 q11 t11 => ?_⟩
    have f9 := t11 _ _ npP.symm m1
    have f10 := t11 _ _ npLP.symm m2
    have u11 : Bt p G9 G11 := (bt_same sP2).trans t11
    -- self.place = 0; self.touches = []
    refine ⟨_, rfl, b_store T q11 (by show 8 < 1000; decide) T.n_Bench_place fun G11b q11b t11b => ?_⟩
    refine ⟨Nat.zero_le _, fun lT b11 => ?_⟩
    have npT : p ≠ lT := ne_of_none q11b b11
    refine ⟨_, rfl, b_store T (by rw [upd_ne npT]; exact q11b) (by show 9 < 1000; decide) T.n_Bench_touches fun G12 q12 t12 => ?_⟩
    have f11 := t12 _ _ npT.symm upd_same
    have u12 : Bt p G11 G12 := (t11b.trans (bt_new b11)).trans t12
    -- self.now = None; self.carried = None; self.raised = False
    refine ⟨_, rfl, b_store T q12 (by show 10 < 1000; decide) T.n_Bench_now fun G13 q13 t13 => ?_⟩
    refine ⟨_, rfl, b_store T q13 (by show 11 < 1000; decide) T.n_Bench_carried fun G14 q14 t14 => ?_⟩
    refine ⟨_, rfl, b_store T q14 (by show 12 < 1000; decide) T.n_Bench_raised fun G15 q15 t15 => ?_⟩
    have uend : Bt p G12 G15 := (t13.trans t14).trans t15
    have wf' := wf
    have e1 : ∀ {a o}, a ≠ p → G2 a = some o → G15 a = some o := fun {a o} h e => uend _ _ h (u12 _ _ h (u11 _ _ h (u9 _ _ h (u7 _ _ h (u6 _ _ h (u5 _ _ h (u3 _ _ h e)))))))
    have e2 : ∀ {a o}, a ≠ p → G3 a = some o → G15 a = some o := fun {a o} h e => uend _ _ h (u12 _ _ h (u11 _ _ h (u9 _ _ h (u7 _ _ h (u6 _ _ h (u5 _ _ h e))))))
    have e5 : ∀ {a o}, a ≠ p → G5 a = some o → G15 a = some o := fun {a o} h e => uend _ _ h (u12 _ _ h (u11 _ _ h (u9 _ _ h (u7 _ _ h (u6 _ _ h e)))))
    have e6 : ∀ {a o}, a ≠ p → G6 a = some o → G15 a = some o := fun {a o} h e => uend _ _ h (u12 _ _ h (u11 _ _ h (u9 _ _ h (u7 _ _ h e))))
    have e7 : ∀ {a o}, a ≠ p → G7 a = some o → G15 a = some o := fun {a o} h e => uend _ _ h (u12 _ _ h (u11 _ _ h (u9 _ _ h e)))
    have e9 : ∀ {a o}, a ≠ p → G9 a = some o → G15 a = some o := fun {a o} h e => uend _ _ h (u12 _ _ h (u11 _ _ h e))
    have e11 : ∀ {a o}, a ≠ p → G11 a = some o → G15 a = some o := fun {a o} h e => uend _ _ h (u12 _ _ h e)
    have npB : ∀ a ∈ asB, a ≠ p := fun a ha => (npl (b4' a ha)).symm
    have alive : ∀ {H' : Hp} {a : Addr} {o : HO}, H' a = some o → ∃ o, H' a = some o := fun h => ⟨_, h⟩
    refine kQ _ G15 rfl (BA.build (lT := lT) wf' hdk hdl hpl (dx := dx) (dB := dB) (dD := dD) (dP := dP)
      (seqH H G2 G3b (upd (upd G3b dB (.own xB)) xB (.ins (He.ga K "Boxes") dB [])) G5 G6 G7 (upd (upd G7 dD (.own xD)) xD (.ins (He.ga K "Feed") dD [])) G9 (upd (upd G9 dP (.own xP)) xP (.ins (He.ga K "Feed") dP [])) G11b G12)
      ?mono ⟨_, hp⟩ b1 ⟨_, f1⟩ b2 ⟨_, t3b _ _ np2.symm f2⟩ bX ⟨_, upd_same⟩ b4 ⟨_, f4⟩ b4' (fun a ha => ⟨_, f4' a ha⟩) ndB nB lnB b5 ⟨_, f5⟩ b5' (fun a ha => ⟨_, f5' a ha⟩) ndM nM lnM b6 ⟨_, f6⟩ b6' (fun a ha => ⟨_, f6' a ha⟩) ndS nS lnS
      b7 ⟨_, upd_same⟩ b8 ⟨_, f8⟩ b9 ⟨_, upd_same⟩ b10 ⟨_, t11b _ _ npLP.symm f10⟩ b11 ⟨_, f11⟩ s0 h0p ?sm (by rw [q15]; rfl)
      (e1 np1.symm f1) (e2 np2.symm f2) (e5 npX.symm f3) (e5 (npl b4).symm f4) (fun a ha => e5 (npB a ha) (f4' a ha)) (e6 npM.symm f5) (fun a ha => e6 (npM' a ha).symm (f5' a ha)) (e7 npS.symm f6) (fun a ha => e7 (npS' a ha).symm (f6' a ha))
      (e9 npD.symm f7) (e9 npLD.symm f8) (e11 npP.symm f9) (e11 npLP.symm f10) (uend _ _ npT.symm f11))
    case mono =>
      intro t b o e
      match t, e with
      | 0, e => exact ⟨o, e⟩
      | 1, e => exact bt_mono u2 q2 b o e
      | 2, e => exact bt_mono (u3.trans t3b) q3b b o e
      | 3, e => exact ⟨o, sB b o e⟩
      | 4, e => exact made_mono g6 ⟨_, g3⟩ t5 q5 b o e
      | 5, e => exact bt_mono u6 q6 b o e
      | 6, e => exact bt_mono u7 q7 b o e
      | 7, e => exact ⟨o, sD b o e⟩
      | 8, e => exact made_mono k3 ⟨_, k1⟩ t9 q9 b o e
      | 9, e => exact ⟨o, sP b o e⟩
      | 10, e => exact made_mono m3 ⟨_, m1⟩ (t11.trans t11b) q11b b o e
      | 11, e => exact bt_mono ((bt_new b11).trans t12) q12 b o e
      | n + 12, e => exact ⟨o, e⟩
    case sm =>
      intro b o e
      have nb : b ≠ p := fun z => by rw [z, h0p] at e; cases e
      exact uend _ _ nb (u12 _ _ nb (u11 _ _ nb (u9 _ _ nb (uall _ _ nb (s0 _ _ e)))))
theorem cal_Bench_init {P : Program} {w : World} {K : PySem.W.Frag} {mg : Str → Option Value} {base : Heap} (T : Txt w K mg) : CalC P w K mg base 3 "Bench" (He.ga K "Bench") ["self", "lengths", "cells", "lanes", "dust", "picks"] (sp_Bench_init K) := ⟨T.g_Bench, _, _, T.mk_Bench, ok_Bench_init T, T.f_Bench_init.bindsN (ps := ["self", "lengths", "cells", "lanes", "dust", "picks"]) fun _ _ _ _ _ _ us hl => match us, hl with | [_, _, _, _, _, _], _ => rfl⟩
end Rb
end

section
set_option Elab.async false
set_option linter.all false
set_option maxRecDepth 100000
set_option maxHeartbeats 4000000
namespace Rb
open PySem PySem.Spec PyProof.Rows L2

/-- what is asked of a code: an invariant of the play, by the place ahead, the place opened and the bench -/
structure Plays (sts : List Stp) (m0 : MS) (F : MS → Option (Int × Int × Str) → Prop) : Prop where
  ex : ∃ (I : Nat → Nat → MS → Prop) (μ : Nat → Nat → MS → Nat), I 0 0 m0 ∧
    (∀ a o m st, I a o m → sts[a]? = some st → m.stp ((a + 1 : Nat) : Int) (o : Int) (fun ref m' a' o' => match ref with
      | none => ∃ a2 o2 : Nat, a' = (a2 : Int) ∧ o' = (o2 : Int) ∧ I a2 o2 m' ∧ μ a2 o2 m' < μ a o m
      | some r => F m' (some r)) st) ∧
    (∀ a o m, I a o m → sts.length ≤ a → F m none)
theorem MS.stp_mono {m : MS} {a o : Int} {R R' : Option (Int × Int × Str) → MS → Int → Int → Prop} (h : ∀ r m' a' o', R r m' a' o' → R' r m' a' o') : ∀ {st : Stp}, m.stp a o R st → m.stp a o R' st := fun {st} e => by
  cases he : st.eff with
  | true =>
    rw [MS.stp_eff he] at e ⊢
    exact ⟨e.1, e.2.1, MS.eff_mono (fun m' r => h _ _ _ _ r) e.2.2⟩
  | false =>
    cases st with
    | begin many g => exact ⟨e.1, e.2.1, fun x y z => h _ _ _ _ (e.2.2 x y z)⟩
    | next => exact ⟨e.1, fun x => h _ _ _ _ (e.2.1 x), fun x y z u => h _ _ _ _ (e.2.2 x y z u)⟩
    | trim => exact ⟨e.1, e.2.1, fun x y z u => h _ _ _ _ (e.2.2.1 x y z u), fun x => h _ _ _ _ (e.2.2.2 x)⟩
    | stop n => exact ⟨e.1, fun x => h _ _ _ _ (e.2.1 x), fun x y z u => h _ _ _ _ (e.2.2 x y z u)⟩
    | _ => cases he
theorem RefV.same {H H' : Hp} {v : V} {r : Option (Int × Int × Str)} (h : RefV H v r) (s : Same H H') : RefV H' v r := by
  cases r with
  | none => exact h
  | some q =>
    obtain ⟨n, e, f⟩ := q
    obtain ⟨p, h1, h2⟩ := h
    exact ⟨p, h1, s _ _ h2⟩
def sp_ran (K : PySem.W.Frag) : Sp := fun vs H Q _ => ∃ (co la ca da pa : Addr) (g lanes : Nat) (len : List Nat) (rc : Nat → Nat → Int) (dst pst : List Int) (cs : List (Addr × Stp)) (F : MS → Option (Int × Int × Str) → Prop), vs = [.ref co, .ref la, .ref ca, .int lanes, .ref da, .ref pa] ∧
  H co = some (.lst (cs.map fun q => V.ref q.1)) ∧ (∀ q ∈ cs, H q.1 = some (.tup q.2.vals)) ∧
  H la = some (.lst (len.map fun (n : Nat) => V.int (n : Int))) ∧ H ca = some (.lst ((flat len 0 rc).map V.int)) ∧ H da = some (.lst (dst.map V.int)) ∧ H pa = some (.lst (pst.map V.int)) ∧ (MS.made g lanes len rc).WF ∧ (∀ n ∈ dst, KR n) ∧ dst.length ≤ 1000 ∧ pst.length ≤ 1000 ∧
  Plays (cs.map (·.2)) (MS.made g lanes len rc) F ∧
  ∀ (m : MS) (ref : Option (Int × Int × Str)) (p q t : Addr) (v : V) (ts : List V) (H' : Hp), F m ref → Same H H' → H' p = some (.tup [.ref q, v, .ref t]) → H' q = some (.lst ((flat m.len 0 m.rc).map V.int)) → H' t = some (.lst ts) → RefV H' v ref → Q (.ref p) H'
theorem sc_ran : FnScope ["code", "lengths", "cells", "lanes", "dust", "picks", "bench", "course", "refusal"] ["code", "lengths", "cells", "lanes", "dust", "picks"] (defScope s_ran) := ⟨rfl, rfl, rfl, by decide +kernel, rfl, by decide +kernel, by decide +kernel⟩
theorem ok_ran {P : Program} {w : World} {K : PySem.W.Frag} {mg : Str → Option Value} {base : Heap} (T : Txt w K mg) : FnOk P w K mg base CX0 10 (ad_ran K) (fdOf K (ad_ran K)) ["code", "lengths", "cells", "lanes", "dust", "picks"] (sp_ran K) := by
  have C_play_step := cal_play_step (P := P) (base := base) T
  have C_Course_init := cal_Course_init (P := P) (base := base) T
  have C_Bench_init := cal_Bench_init (P := P) (base := base) T
  refine T.f_ran.ok sc_ran (fun vs H Q E h => ?_) (fun cdv A outer s H vs Q E hr h => ?_)
  · obtain ⟨_, _, _, _, _, _, _, _, _, _, _, _, _, rfl, _⟩ := h
    rfl
  · have hu := hu_of hr
    have nd := sc_ran.nd
    refine ⟨_, PSs.nox ((pss_cons (ps_set (i := 6) nd rfl (Or.inl rfl) (pe_clc C_Bench_init (hr.mono (by decide)) (pa_cons (pv 1) (pa_cons (pv 2) (pa_cons (pv 3) (pa_cons (pv 4) (pa_cons (pv 5) pa_nil)))))))
      (pss_cons (ps_set (i := 7) nd rfl (Or.inl rfl) (pe_clc0 C_Course_init (hr.mono (by decide))))
      (pss_cons (ps_set (i := 8) nd rfl (Or.inl rfl) pe_non)
      (pss_cons (ps_while PassesOwn.never (PW.pt (pw_and (pt_cmpR op_lt (pe_fld (pv 7) rfl) (pe_callB call_len_seq rfl T.b_len PySem.boot_len (pa_cons (pv 0) pa_nil)) (nomark _)) (pw_and1 (pt_cmpR op_isN (pv 8) pe_non (nomark _)))))
      (pss_cons (ps_fld (pv 6) (pe_fld (pv 7) rfl) rfl)
      (pss_cons (ps_fldaug (pv 7) pe_int in_add)
      (pss_one (ps_set (i := 8) nd rfl (Or.inl rfl) (pe_cl C_play_step (hr.mono (by decide)) (pa_cons (pv 6) (pa_cons (pv 7) (pa_cons (pe_ix ix_list (pv 0) (pe_fld (pv 6) rfl) (fun _ _ => rfl)) pa_nil)))))))))
      (pss_one (ps_ret (pe_tup (pa_cons (pe_fld (pv 6) rfl) (pa_cons (pv 8) (pa_cons (pe_fld (pv 6) rfl) pa_nil))))))))))), ?_⟩
    obtain ⟨co, la, ca, da, pa, g, lanes, len, rc, dst, pst, cs, F, rfl, hco, hcs, hLa, hCa, hDa, hPa, wf, hdk, hdl, hpl, hP, kQ⟩ := h
    obtain ⟨I, μ, i0, iS, iE⟩ := hP.ex
    -- bench = Bench(..)
    refine ⟨_, rfl, _, rfl, _, rfl, _, rfl, _, rfl, ?_⟩
    intro p dx hp hdx hne
    have sp0 : Same H (upd (upd H dx (.own p)) p (.ins (He.ga K "Bench") dx [])) := same_upd (same_new hdx) hp
    refine ⟨H, p, dx, la, ca, da, pa, g, lanes, len, rc, dst, pst, rfl, upd_same, sp0.seq (SqL.of hLa), sp0.seq (SqL.of hCa), sp0.seq (SqL.of hDa), sp0.seq (SqL.of hPa), (ne_of_none hLa hp).symm, (ne_of_none hCa hp).symm, (ne_of_none hDa hp).symm, (ne_of_none hPa hp).symm, sp0, hp, wf, hdk, hdl, hpl, fun ad H1 hadp B1 => ⟨rfl, ?_⟩⟩
    subst hadp
    -- course = Course()
    intro c dc hc hdc hnc
    have sc0 : Same H1 (upd (upd H1 dc (.own c)) c (.ins (He.ga K "Course") dc [])) := same_upd (same_new hdc) hc
    refine ⟨c, dc, rfl, upd_same, fun lt H2 hlt hc2 hk2 => ⟨rfl, ?_⟩⟩
    have s12 : Same H1 H2 := fun b o e => hk2 b o (ne_of_none e hc) (sc0 b o e)
    have M0 : MC K H ad (MS.made g lanes len rc) c 0 0 H2 := ⟨B1.sm s12, ⟨dc, lt, hc2⟩, B1.off_new hc, B1.same.free hc⟩
    -- refusal = None; while ..
    refine ⟨fun n σ H' => ∃ (ad' : Ro → Addr) (m : MS) (ai oi : Int) (v8 : V), σ = [some (.ref co), some (.ref la), some (.ref ca), some (.int lanes), some (.ref da), some (.ref pa), some (.ref (ad .bench)), some (.ref c), some v8] ∧ ad' .bench = ad .bench ∧ MC K H ad' m c ai oi H' ∧
      ((v8 = .non ∧ ∃ a o : Nat, ai = (a : Int) ∧ oi = (o : Int) ∧ I a o m ∧ n = μ a o m + 1) ∨ (∃ r, F m (some r) ∧ RefV H' v8 (some r) ∧ n = 0)), ⟨_, ad, _, 0, 0, .non, rfl, rfl, M0, .inl ⟨rfl, 0, 0, rfl, rfl, i0, rfl⟩⟩, ?_⟩
    have hend : ∀ (ad' : Ro → Addr) (m : MS) (a o : Int) (v8 : V) (ref : Option (Int × Int × Str)) (H' : Hp) (R : VK), ad' .bench = ad .bench → MC K H ad' m c a o H' → F m ref → RefV H' v8 ref → (∀ p' H'', Q (.ref p') H'' → R (.ref p') H'') →
        ∃ v, some (some (V.ref (ad .bench))) = some (some v) ∧ ∃ a_1 C dx fs v_1, v = .ref a_1 ∧ H' a_1 = some (.ins C dx fs) ∧ Cls K C ∧ NoAttr K C "cells" ∧ List.lookup ("cells" : Str) fs = some v_1 ∧ ∃ v, some (some v8) = some (some v) ∧ ∃ v_2, some (some (V.ref (ad .bench))) = some (some v_2) ∧ ∃ a_1 C dx fs v_3, v_2 = .ref a_1 ∧ H' a_1 = some (.ins C dx fs) ∧ Cls K C ∧ NoAttr K C "touches" ∧ List.lookup ("touches" : Str) fs = some v_3 ∧
          [v_1, v, v_3].length ≤ sizeLine ∧ ∀ p, H' p = none → R (.ref p) (upd H' p (.tup [v_1, v, v_3])) := by
      intro ad' m a o v8 ref H' R hb M hF hR hQ
      obtain ⟨gh, hg, hBn⟩ := M.b.at1 (r := .bench) rfl
      obtain ⟨gh2, hg2, hTt⟩ := M.b.at1 (r := .touch) rfl
      have hCl := M.b.lst (r := .cells) rfl (xs := _) fun _ => rfl
      rw [hb] at hBn
      refine ⟨_, rfl, _, _, _, _, _, rfl, hBn, T.cl_Bench, T.n_Bench_cells, rfl, _, rfl, _, rfl, _, _, _, _, _, rfl, hBn, T.cl_Bench, T.n_Bench_touches, rfl, by show 3 ≤ sizeLine; decide, fun p' hp' => hQ _ _ ?_⟩
      have s3 : Same H' (upd H' p' (.tup [.ref (ad' .cells), v8, .ref (ad' .touch)])) := same_new hp'
      exact kQ m ref p' _ _ v8 _ _ hF (M.b.same.trans s3) upd_same (s3 _ _ hCl) (s3 _ _ hTt) (hR.same s3)
    rintro n σ H' ⟨ad', m, ai, oi, v8, rfl, hb, M, hI⟩
    have hco' := M.b.same _ _ hco
    refine ⟨_, rfl, M.fC T (fun _ => rfl) T.n_Course_ahead ⟨_, rfl, co, _, rfl, .inl (SqL.of hco'), _, _, rfl, rfl, _, rfl, ?_⟩⟩
    rw [List.length_map]
    rcases hI with ⟨rfl, a, o, rfl, rfl, hI, rfl⟩ | ⟨r, hF, hR, rfl⟩
    · by_cases ha : a < cs.length
      · rw [decide_eq_true (show ((a : Nat) : Int) < ((cs.length : Nat) : Int) by omega)]
        refine ⟨_, rfl, rfl, _, rfl, ?_⟩
        refine ⟨fun σ' H'' => ∃ n', n' < μ a o m + 1 ∧ ∃ (ad' : Ro → Addr) (m : MS) (ai oi : Int) (v8 : V), σ' = [some (.ref co), some (.ref la), some (.ref ca), some (.int lanes), some (.ref da), some (.ref pa), some (.ref (ad .bench)), some (.ref c), some v8] ∧ ad' .bench = ad .bench ∧ MC K H ad' m c ai oi H'' ∧
          ((v8 = .non ∧ ∃ a o : Nat, ai = (a : Int) ∧ oi = (o : Int) ∧ I a o m ∧ n' = μ a o m + 1) ∨ (∃ r, F m (some r) ∧ RefV H'' v8 (some r) ∧ n' = 0)), fun σ' H'' ⟨n', h1, h2⟩ => ⟨n', h1, h2⟩, ?_⟩
        -- bench.place = course.ahead
        obtain ⟨dxb, fsb, p1, p2, p3⟩ := M.b.setPlace
        rw [hb] at p1
        refine ⟨_, rfl, M.fC T (fun _ => rfl) T.n_Course_ahead ⟨_, rfl, _, _, dxb, fsb, rfl, p1, T.cl_Bench, T.n_Bench_place, p2, ?_⟩⟩
        have B2 := p3 (a : Int)
        rw [hb] at B2
        have nbc : c ≠ ad .bench := by rw [← hb]; exact M.off .bench rfl
        have M2 : MC K H ad' m c a o (upd H' (ad .bench) (.ins (He.ga K "Bench") dxb (putF "place" (.int (a : Int)) fsb))) := by
          obtain ⟨dxc, t, hcc⟩ := M.co
          exact ⟨B2, ⟨dxc, t, by rw [upd_ne nbc]; exact hcc⟩, M.off, M.new⟩
        have h2b : upd H' (ad .bench) (HO.ins (He.ga K "Bench") dxb (putF "place" (.int (a : Int)) fsb)) (ad .bench) = some (.ins (He.ga K "Bench") dxb (putF "place" (.int (a : Int)) fsb)) := upd_same
        generalize upd H' (ad .bench) (HO.ins (He.ga K "Bench") dxb (putF "place" (.int (a : Int)) fsb)) = H2 at M2 h2b ⊢
        -- course.ahead += 1
        obtain ⟨dxo, fso, r1, r2, r4, r3⟩ := M2.setAhead
        refine ⟨_, rfl, _, _, dxo, fso, _, rfl, r1, T.cl_Course, T.n_Course_ahead, r4, _, _, rfl, rfl, dxo, fso, r1, r2, ?_⟩
        have M3 := r3 ((a : Int) + 1)
        have h3b : upd H2 c (.ins (He.ga K "Course") dxo (putF "ahead" (.int ((a : Int) + 1)) fso)) (ad .bench) = some (.ins (He.ga K "Bench") dxb (putF "place" (.int (a : Int)) fsb)) := by rw [upd_ne nbc.symm]; exact h2b
        generalize upd H2 c (.ins (He.ga K "Course") dxo (putF "ahead" (.int ((a : Int) + 1)) fso)) = H3 at M3 h3b ⊢
        -- refusal = play_step(bench, course, code[bench.place])
        have hco3 := M3.b.same _ _ hco
        have hlk : List.lookup ("place" : Str) (putF "place" (.int (a : Int)) fsb) = some (.int (a : Int)) := by
          rw [lookup_putF, if_pos rfl]
        obtain ⟨⟨sa, st⟩, hca⟩ : ∃ q, cs[a]? = some q := ⟨_, List.getElem?_eq_getElem ha⟩
        have hcm : (cs.map fun q => V.ref q.1)[a]? = some (.ref sa) := by
          rw [List.getElem?_map, hca]
          rfl
        have hst : (cs.map (·.2))[a]? = some st := by
          rw [List.getElem?_map, hca]
          rfl
        have hsa : H sa = some (.tup st.vals) := hcs (sa, st) (List.mem_of_getElem? hca)
        have e1 : ((a : Int) + 1) = ((a + 1 : Nat) : Int) := by push_cast; rfl
        refine ⟨_, rfl, _, rfl, _, rfl, _, rfl, _, _, _, _, _, rfl, h3b, T.cl_Bench, T.n_Bench_place, hlk, co, _, _, _, rfl, rfl, SqL.of hco3, atI_of rfl hcm, ?_⟩
        refine ⟨H, ad', m, c, sa, (a : Int) + 1, (o : Int), st, by rw [hb]; rfl, M3, hsa, ?_⟩
        have hs := iS a o m st hI hst
        rw [e1]
        refine MS.stp_mono (fun ref m' a' o' hr ad'' v H'' hk M' hR => ?_) hs
        have hb2 : ad'' .bench = ad .bench := by rw [hk .bench (by decide) (by decide), hb]
        cases ref with
        | none =>
          obtain ⟨a2, o2, rfl, rfl, hI2, hmu⟩ := hr
          have hv : v = .non := hR
          subst hv
          exact ⟨_, by omega, ad'', m', a2, o2, .non, rfl, hb2, M', .inl ⟨rfl, a2, o2, rfl, rfl, hI2, rfl⟩⟩
        | some r => exact ⟨0, by omega, ad'', m', a', o', v, rfl, hb2, M', .inr ⟨r, hr, hR, rfl⟩⟩
      · rw [decide_eq_false (show ¬ ((a : Nat) : Int) < ((cs.length : Nat) : Int) by omega)]
        have hF := iE a o m hI (by rw [List.length_map]; omega)
        exact hend ad' m _ _ .non none H' Q hb M hF rfl fun _ _ h => h
    · have fin := hend ad' m _ _ v8 (some r) H' Q hb M hF hR fun _ _ h => h
      by_cases ha : ai < ((cs.length : Nat) : Int)
      · rw [decide_eq_true ha]
        refine ⟨_, rfl, rfl, _, rfl, ?_⟩
        have hv : v8 ≠ .non := by
          obtain ⟨n, e, f⟩ := r
          obtain ⟨p', h1, _⟩ := hR
          rw [h1]
          intro z
          cases z
        exact iteDF hv fin
      · rw [decide_eq_false ha]
        exact fin
theorem cal_ran {P : Program} {w : World} {K : PySem.W.Frag} {mg : Str → Option Value} {base : Heap} (T : Txt w K mg) : Cal P w K mg base 10 "ran" ["code", "lengths", "cells", "lanes", "dust", "picks"] (sp_ran K) := ⟨_, _, ok_ran T, T.g_ran, T.f_ran.kp, T.f_ran.bindsN (ps := ["code", "lengths", "cells", "lanes", "dust", "picks"]) fun _ _ _ _ _ _ us hl => match us, hl with | [_, _, _, _, _, _], _ => rfl⟩
end Rb
end

section
set_option Elab.async false
set_option linter.all false
set_option maxRecDepth 100000
set_option maxHeartbeats 4000000
namespace Rb
open PySem PySem.Spec PyProof.Rows L2
/-! ### the law's own world, plainly -/
inductive Rw where
  | wd | sl | fl | md | tl | seat (i : Nat) | mask (i : Nat) | slot (i : Nat) | pl | part (i : Nat)
  deriving DecidableEq
structure WS where
  nse : Nat
  many : Nat
  se : Nat → Nat → Option Int
  fa : Nat → Option Str
  ks : List Nat
  wm : Nat → Nat → Bool
  so : Nat → Nat → Option Int
  ln : Nat → Nat
  pr : Nat → Nat → Int
def wdF (ad : Rw → Addr) : List (Key × V) := [(.inr "seats", .ref (ad .sl)), (.inr "faults", .ref (ad .fl)), (.inr "masks", .ref (ad .md)), (.inr "slots", .ref (ad .tl))]
def contW (ad : Rw → Addr) (W : WS) : Rw → HO
  | .wd => .dK (wdF ad)
  | .sl => .lst ((List.range W.nse).map fun i => .ref (ad (.seat i)))
  | .fl => .lst ((List.range W.many).map fun e => fv (W.fa e))
  | .md => .dK (W.ks.map fun (k : Nat) => ((Sum.inl (k : Int) : Key), V.ref (ad (.mask k))))
  | .tl => .lst ((List.range 60).map fun i => .ref (ad (.slot i)))
  | .seat i => .lst ((List.range W.many).map fun e => ov (W.se i e))
  | .mask i => .lst ((List.range W.many).map fun e => .bl (W.wm i e))
  | .slot i => .lst ((List.range W.many).map fun e => ov (W.so i e))
  | .pl => .lst ((List.range 7).map fun i => .ref (ad (.part i)))
  | .part i => .lst ((List.range (W.ln i)).map fun e => .int (W.pr i e))
def WS.rok (W : WS) : Rw → Bool
  | .seat i => decide (i < W.nse)
  | .mask i => decide (i ∈ W.ks)
  | .slot i => decide (i < 60)
  | .part i => decide (i < 7)
  | _ => true
structure WS.WF (W : WS) : Prop where
  n8 : W.nse ≤ 8
  m1 : W.many ≤ 400
  knd : W.ks.Nodup
  k16 : ∀ k ∈ W.ks, k < 16
  k0 : 0 ∈ W.ks
  sek : ∀ p e n, W.se p e = some n → KR n
  sok : ∀ p e n, W.so p e = some n → KR n
  prk : ∀ p e, KR (W.pr p e)
  lnb : ∀ r, W.ln r ≤ 400
  lnr : (∀ r, r < 7 → 0 < W.ln r) ∧ W.ln 0 = W.many ∧ W.ln 1 = W.many ∧ W.ln 3 = W.many ∧ W.ln 4 = W.many
structure WA (H0 : Hp) (ad : Rw → Addr) (W : WS) (H : Hp) : Prop where
  wf : W.WF
  inj : ∀ r r', W.rok r = true → W.rok r' = true → ad r = ad r' → r = r'
  off : ∀ r, W.rok r = true → H0 (ad r) = none
  at_ : ∀ r, W.rok r = true → H (ad r) = some (contW ad W r)
  same : Same H0 H
section
variable {w : World} {K : PySem.W.Frag} {mg : Str → Option Value} {H0 H1 H H' : Hp} {ad ad' : Rw → Addr} {W W' : WS}
theorem WA.write (A : WA H0 ad W H) {r : Rw} {o : HO} (wf : W'.WF) (hr : W.rok r = true) (hon : ∀ r, W'.rok r = W.rok r) (ho : contW ad W' r = o) (oth : ∀ r', r' ≠ r → W.rok r' = true → contW ad W' r' = contW ad W r') : WA H0 ad W' (upd H (ad r) o) := by
  refine ⟨wf, fun r r' h h' => A.inj r r' (by rw [← hon]; exact h) (by rw [← hon]; exact h'), fun r h => A.off r (by rw [← hon]; exact h), fun r' h => ?_, same_upd A.same (A.off r hr)⟩
  rw [hon] at h
  by_cases e : r' = r
  · subst e
    rw [upd_same, ho]
  · rw [upd_ne (fun z => e (A.inj _ _ h hr z)), A.at_ r' h, oth r' e h]
theorem WA.sm (A : WA H0 ad W H) (s : Same H H') : WA H0 ad W H' := ⟨A.wf, A.inj, A.off, fun r h => s _ _ (A.at_ r h), A.same.trans s⟩
theorem WA.weaken (A : WA H1 ad W H) (s : Same H0 H1) : WA H0 ad W H := ⟨A.wf, A.inj, fun r h => s.free (A.off r h), A.at_, s.trans A.same⟩
open Classical in
noncomputable def offW (ad : Rw → Addr) (W : WS) (H : Hp) : Hp := fun b => if ∃ r, W.rok r = true ∧ b = ad r then none else H b
theorem offW_in {r : Rw} (h : W.rok r = true) : offW ad W H (ad r) = none := if_pos ⟨r, h, rfl⟩
theorem offW_out {b : Addr} (h : ∀ r, W.rok r = true → b ≠ ad r) : offW ad W H b = H b := if_neg fun ⟨r, h1, h2⟩ => h r h1 h2
theorem offW_same : Same (offW ad W H) H := fun b o e => by
  unfold offW at e
  split at e
  · cases e
  · exact e
theorem WA.rebase (A : WA H0 ad W H) : WA (offW ad W H) ad W H := ⟨A.wf, A.inj, fun r h => offW_in h, A.at_, offW_same⟩
theorem WA.back (A : WA H0 ad W H) : Same H0 (offW ad W H) := fun b o e => by
  rw [offW_out (fun r h z => by rw [z, A.off r h] at e; cases e)]
  exact A.same b o e
theorem WA.out_new (A : WA H0 ad W H) {a : Addr} {o : HO} (hn : H a = none) (s : Same H H') (h : H' a = some o) : offW ad W H' a = some o := by
  rw [offW_out (fun r hr z => by
    rw [z, A.at_ r hr] at hn
    cases hn)]
  exact h
theorem WA.tup (A : WA H0 ad W H) {a : Addr} {xs : List V} (h : H0 a = some (.tup xs)) : SqT K H a xs := SqT.of (A.same _ _ h)
theorem WA.out_tup (A : WA H0 ad W H) {a : Addr} {xs : List V} (h : H a = some (.tup xs)) : offW ad W H a = some (.tup xs) := by
  rw [offW_out (fun r hr z => by
    rw [z, A.at_ r hr] at h
    cases r <;> cases h)]
  exact h
/-! ### the world's dict -/
theorem WA.d1 (A : WA H0 ad W H) : DGet H (ad .wd) (.str "seats") (some (.ref (ad .sl))) := DGet.k (k := Sum.inr "seats") (A.at_ .wd rfl)
theorem WA.d2 (A : WA H0 ad W H) : DGet H (ad .wd) (.str "faults") (some (.ref (ad .fl))) := DGet.k (k := Sum.inr "faults") (A.at_ .wd rfl)
theorem WA.d3 (A : WA H0 ad W H) : DGet H (ad .wd) (.str "masks") (some (.ref (ad .md))) := DGet.k (k := Sum.inr "masks") (A.at_ .wd rfl)
theorem WA.d4 (A : WA H0 ad W H) : DGet H (ad .wd) (.str "slots") (some (.ref (ad .tl))) := DGet.k (k := Sum.inr "slots") (A.at_ .wd rfl)
theorem valV_map {f : Nat → V} : ∀ {ks : List Nat} {k : Nat}, k ∈ ks → valV (ks.map fun (k : Nat) => ((Sum.inl (k : Int) : Key), f k)) (.inl (k : Int)) = some (f k)
  | [], _, h => by cases h
  | j :: r, k, h => by
    by_cases e : j = k
    · subst e
      exact valV_pos rfl
    · rw [List.map_cons, valV_neg (fun z => e (by have := Sum.inl.inj z; omega))]
      exact valV_map ((List.mem_cons.mp h).resolve_left fun z => e z.symm)
theorem WA.dm (A : WA H0 ad W H) {k : Nat} (hk : k ∈ W.ks) : DGet H (ad .md) (.int (k : Int)) (some (.ref (ad (.mask k)))) := by
  have h := DGet.k (k := Sum.inl (k : Int)) (A.at_ .md rfl)
  rw [valV_map (f := fun k => V.ref (ad (.mask k))) hk] at h
  exact h
theorem WA.seatL (A : WA H0 ad W H) {p : Nat} (hp : p < W.nse) : SqL K H (ad (.seat p)) ((List.range W.many).map fun e => ov (W.se p e)) := SqL.of (A.at_ (.seat p) (decide_eq_true hp))
theorem WA.slL (A : WA H0 ad W H) : SqL K H (ad .sl) ((List.range W.nse).map fun i => .ref (ad (.seat i))) := SqL.of (A.at_ .sl rfl)
theorem WA.flL (A : WA H0 ad W H) : SqL K H (ad .fl) ((List.range W.many).map fun e => fv (W.fa e)) := SqL.of (A.at_ .fl rfl)
theorem WA.tlL (A : WA H0 ad W H) : SqL K H (ad .tl) ((List.range 60).map fun i => .ref (ad (.slot i))) := SqL.of (A.at_ .tl rfl)
theorem WA.slotL (A : WA H0 ad W H) {p : Nat} (hp : p < 60) : SqL K H (ad (.slot p)) ((List.range W.many).map fun e => ov (W.so p e)) := SqL.of (A.at_ (.slot p) (decide_eq_true hp))
theorem WA.maskL (A : WA H0 ad W H) {k : Nat} (hk : k ∈ W.ks) : SqL K H (ad (.mask k)) ((List.range W.many).map fun e => .bl (W.wm k e)) := SqL.of (A.at_ (.mask k) (decide_eq_true hk))
theorem WA.plL (A : WA H0 ad W H) : SqL K H (ad .pl) ((List.range 7).map fun i => .ref (ad (.part i))) := SqL.of (A.at_ .pl rfl)
theorem WA.partL (A : WA H0 ad W H) {r : Nat} (hr : r < 7) : SqL K H (ad (.part r)) ((List.range (W.ln r)).map fun e => .int (W.pr r e)) := SqL.of (A.at_ (.part r) (decide_eq_true hr))
/-! ### stores -/
theorem WA.setFault (A : WA H0 ad W H) {e : Nat} (s : Str) (he : e < W.many) : WA H0 ad { W with fa := upd1 W.fa e (some s) } (upd H (ad .fl) (.lst (((List.range W.many).map fun e => fv (W.fa e)).set e (.str s)))) := by
  refine A.write (r := .fl) ⟨A.wf.n8, A.wf.m1, A.wf.knd, A.wf.k16, A.wf.k0, A.wf.sek, A.wf.sok, A.wf.prk, A.wf.lnb, A.wf.lnr⟩ rfl (fun _ => rfl) ?_ fun r' hr' _ => ?_
  · show HO.lst ((List.range W.many).map fun x => fv (upd1 W.fa e (some s) x)) = _
    rw [rm_set]
    congr 1
    refine List.map_congr_left fun x _ => ?_
    unfold upd1
    by_cases c : x = e
    · rw [if_pos c, if_pos c]
      rfl
    · rw [if_neg c, if_neg c]
  · cases r' with
    | fl => exact (hr' rfl).elim
    | _ => rfl
theorem WA.setPart (A : WA H0 ad W H) {r i : Nat} {v : Int} (hr : r < 7) (hv : KR v) : WA H0 ad { W with pr := upd2 W.pr r i v } (upd H (ad (.part r)) (.lst (((List.range (W.ln r)).map fun e => V.int (W.pr r e)).set i (.int v)))) := by
  refine A.write (r := .part r) ⟨A.wf.n8, A.wf.m1, A.wf.knd, A.wf.k16, A.wf.k0, A.wf.sek, A.wf.sok, fun p e => ?_, A.wf.lnb, A.wf.lnr⟩ (decide_eq_true hr) (fun _ => rfl) ?_ fun r' hr' _ => ?_
  · show KR (upd2 W.pr r i v p e)
    unfold upd2
    split
    · exact hv
    · exact A.wf.prk p e
  · show HO.lst ((List.range (W.ln r)).map fun x => V.int (upd2 W.pr r i v r x)) = _
    rw [rm_set]
    congr 1
    refine List.map_congr_left fun x _ => ?_
    unfold upd2
    by_cases c : x = i
    · rw [if_pos ⟨rfl, c⟩, if_pos c]
    · rw [if_neg (fun z => c z.2), if_neg c]
  · cases r' with
    | part r2 =>
      show HO.lst ((List.range (W.ln r2)).map fun x => V.int (upd2 W.pr r i v r2 x)) = HO.lst ((List.range (W.ln r2)).map fun x => V.int (W.pr r2 x))
      congr 1
      refine List.map_congr_left fun x _ => ?_
      rw [upd2_ne (fun z => hr' (by rw [z.1]))]
    | _ => rfl
/-- a role's object replaced by a new one -/
def putAd (ad : Rw → Addr) (r : Rw) (D : Addr) : Rw → Addr := fun x => if x = r then D else ad x
theorem putAd_same {r : Rw} {D : Addr} : putAd ad r D r = D := if_pos rfl
theorem putAd_ne {r x : Rw} {D : Addr} (h : x ≠ r) : putAd ad r D x = ad x := if_neg h
theorem WA.newSeat (A : WA H0 ad W H) {p : Nat} {D : Addr} {f : Nat → Option Int} (hp : p < W.nse) (hD : H0 D = none) (hoff : ∀ r, W.rok r = true → D ≠ ad r) (hd : H D = some (.lst ((List.range W.many).map fun e => ov (f e)))) (hk : ∀ e n, f e = some n → KR n) :
    WA H0 (putAd ad (.seat p) D) { W with se := fun q e => if q = p then f e else W.se q e } (upd H (ad .sl) (.lst (((List.range W.nse).map fun i => V.ref (ad (.seat i))).set p (.ref D)))) := by
  have keep : ∀ r, r ≠ .seat p → r ≠ .sl → contW (putAd ad (.seat p) D) { W with se := fun q e => if q = p then f e else W.se q e } r = contW ad W r := fun r h1 h2 => by
    cases r with
    | sl => exact (h2 rfl).elim
    | seat i =>
      show HO.lst ((List.range W.many).map fun e => ov (if i = p then f e else W.se i e)) = HO.lst ((List.range W.many).map fun e => ov (W.se i e))
      congr 1
      refine List.map_congr_left fun e _ => ?_
      rw [if_neg (fun z => h1 (by rw [z]))]
    | wd =>
      show HO.dK (wdF (putAd ad (.seat p) D)) = HO.dK (wdF ad)
      rfl
    | _ => rfl
  refine ⟨⟨A.wf.n8, A.wf.m1, A.wf.knd, A.wf.k16, A.wf.k0, fun q e n h => ?_, A.wf.sok, A.wf.prk, A.wf.lnb, A.wf.lnr⟩, fun r r' h h' e => ?_, fun r h => ?_, fun r h => ?_, same_upd A.same (A.off .sl rfl)⟩
  · have h' : (if q = p then f e else W.se q e) = some n := h
    split at h'
    · exact hk e n h'
    · exact A.wf.sek q e n h'
  · by_cases c : r = .seat p
    · by_cases c' : r' = .seat p
      · rw [c, c']
      · rw [c, putAd_same, putAd_ne c'] at e
        exact (hoff r' h' e).elim
    · by_cases c' : r' = .seat p
      · rw [c', putAd_same, putAd_ne c] at e
        exact (hoff r h e.symm).elim
      · rw [putAd_ne c, putAd_ne c'] at e
        exact A.inj r r' h h' e
  · by_cases c : r = .seat p
    · rw [c, putAd_same]
      exact hD
    · rw [putAd_ne c]
      exact A.off r h
  · by_cases c : r = .seat p
    · subst c
      rw [putAd_same, upd_ne (hoff .sl rfl), hd]
      show _ = some (HO.lst ((List.range W.many).map fun e => ov (if p = p then f e else W.se p e)))
      simp
    · rw [putAd_ne c]
      by_cases c2 : r = .sl
      · subst c2
        rw [upd_same]
        show _ = some (HO.lst ((List.range W.nse).map fun i => V.ref (putAd ad (.seat p) D (.seat i))))
        rw [rm_set]
        congr 2
        refine List.map_congr_left fun i _ => ?_
        unfold putAd
        by_cases c3 : i = p
        · rw [if_pos c3, if_pos (by rw [c3])]
        · rw [if_neg c3, if_neg (fun z => c3 (by cases z; rfl))]
      · rw [upd_ne (fun z => c2 (A.inj r .sl h rfl z)), A.at_ r h, keep r c c2]
theorem WA.newSlot (A : WA H0 ad W H) {p : Nat} {D : Addr} {f : Nat → Option Int} (hp : p < 60) (hD : H0 D = none) (hoff : ∀ r, W.rok r = true → D ≠ ad r) (hd : H D = some (.lst ((List.range W.many).map fun e => ov (f e)))) (hk : ∀ e n, f e = some n → KR n) :
    WA H0 (putAd ad (.slot p) D) { W with so := fun q e => if q = p then f e else W.so q e } (upd H (ad .tl) (.lst (((List.range 60).map fun i => V.ref (ad (.slot i))).set p (.ref D)))) := by
  have keep : ∀ r, r ≠ .slot p → r ≠ .tl → contW (putAd ad (.slot p) D) { W with so := fun q e => if q = p then f e else W.so q e } r = contW ad W r := fun r h1 h2 => by
    cases r with
    | tl => exact (h2 rfl).elim
    | slot i =>
      show HO.lst ((List.range W.many).map fun e => ov (if i = p then f e else W.so i e)) = HO.lst ((List.range W.many).map fun e => ov (W.so i e))
      congr 1
      refine List.map_congr_left fun e _ => ?_
      rw [if_neg (fun z => h1 (by rw [z]))]
    | _ => rfl
  refine ⟨⟨A.wf.n8, A.wf.m1, A.wf.knd, A.wf.k16, A.wf.k0, A.wf.sek, fun q e n h => ?_, A.wf.prk, A.wf.lnb, A.wf.lnr⟩, fun r r' h h' e => ?_, fun r h => ?_, fun r h => ?_, same_upd A.same (A.off .tl rfl)⟩
  · have h' : (if q = p then f e else W.so q e) = some n := h
    split at h'
    · exact hk e n h'
    · exact A.wf.sok q e n h'
  · by_cases c : r = .slot p
    · by_cases c' : r' = .slot p
      · rw [c, c']
      · rw [c, putAd_same, putAd_ne c'] at e
        exact (hoff r' h' e).elim
    · by_cases c' : r' = .slot p
      · rw [c', putAd_same, putAd_ne c] at e
        exact (hoff r h e.symm).elim
      · rw [putAd_ne c, putAd_ne c'] at e
        exact A.inj r r' h h' e
  · by_cases c : r = .slot p
    · rw [c, putAd_same]
      exact hD
    · rw [putAd_ne c]
      exact A.off r h
  · by_cases c : r = .slot p
    · subst c
      rw [putAd_same, upd_ne (hoff .tl rfl), hd]
      show _ = some (HO.lst ((List.range W.many).map fun e => ov (if p = p then f e else W.so p e)))
      simp
    · rw [putAd_ne c]
      by_cases c2 : r = .tl
      · subst c2
        rw [upd_same]
        show _ = some (HO.lst ((List.range 60).map fun i => V.ref (putAd ad (.slot p) D (.slot i))))
        rw [rm_set]
        congr 2
        refine List.map_congr_left fun i _ => ?_
        unfold putAd
        by_cases c3 : i = p
        · rw [if_pos c3, if_pos (by rw [c3])]
        · rw [if_neg c3, if_neg (fun z => c3 (by cases z; rfl))]
      · rw [upd_ne (fun z => c2 (A.inj r .tl h rfl z)), A.at_ r h, keep r c c2]
theorem nd_len : ∀ (n : Nat) (ks : List Nat), ks.Nodup → (∀ k ∈ ks, k < n) → ks.length ≤ n
  | 0, [], _, _ => Nat.le_refl _
  | 0, k :: r, _, h => absurd (h k List.mem_cons_self) (Nat.not_lt_zero k)
  | n + 1, ks, nd, h => by
    have h1 := nd_len n (ks.erase n) (nd.erase n) fun k hk => by
      have h2 := (List.Nodup.mem_erase_iff nd).mp hk
      have h3 := h k h2.2
      have h4 := h2.1
      omega
    have h2 : ks.length ≤ (ks.erase n).length + 1 := by
      rw [List.length_erase]
      split <;> omega
    omega
/-- the masks' keys behind a store -/
def addK (ks : List Nat) (k : Nat) : List Nat := if k ∈ ks then ks else ks ++ [k]
theorem mem_addK {ks : List Nat} {k x : Nat} : x ∈ addK ks k ↔ x = k ∨ x ∈ ks := by
  unfold addK
  split
  · rename_i h
    exact ⟨fun z => .inr z, fun z => z.elim (fun e => by rw [e]; exact h) id⟩
  · rw [List.mem_append, List.mem_singleton]
    exact ⟨fun z => z.symm, fun z => z.symm⟩
theorem any_map {f : Nat → V} {k : Nat} : ∀ (ks : List Nat), ((ks.map fun (k : Nat) => ((Sum.inl (k : Int) : Key), f k)).any fun kv => decide (kv.1 = .inl (k : Int))) = decide (k ∈ ks)
  | [] => by simp
  | j :: r => by
    rw [List.map_cons, List.any_cons, any_map r]
    by_cases e : j = k
    · subst e
      simp
    · have h1 : ¬ ((Sum.inl (j : Int) : Key) = Sum.inl (k : Int)) := fun z => e (by have := Sum.inl.inj z; omega)
      have h2 : ¬ k = j := fun z => e z.symm
      simp [h1, h2]
theorem putK_map {f : Nat → V} {k : Nat} {v : V} (ks : List Nat) : putK (ks.map fun (k : Nat) => ((Sum.inl (k : Int) : Key), f k)) (.inl (k : Int)) v = (addK ks k).map fun (x : Nat) => ((Sum.inl (x : Int) : Key), if x = k then v else f x) := by
  unfold putK addK
  rw [any_map]
  by_cases h : k ∈ ks
  · rw [if_pos (decide_eq_true h), if_pos h, List.map_map]
    refine List.map_congr_left fun x _ => ?_
    by_cases e : x = k
    · subst e
      simp
    · have h1 : ¬ ((Sum.inl (x : Int) : Key) = Sum.inl (k : Int)) := fun z => e (by have := Sum.inl.inj z; omega)
      show (if (Sum.inl (x : Int) : Key) = Sum.inl (k : Int) then _ else _) = _
      rw [if_neg h1, if_neg e]
  · rw [if_neg (by simp [h]), if_neg h, List.map_append]
    congr 1
    · refine List.map_congr_left fun x hx => ?_
      rw [if_neg (fun z => h (by rw [← z]; exact hx))]
    · simp
theorem WA.newMask (A : WA H0 ad W H) {k : Nat} {D : Addr} {f : Nat → Bool} (hk : k < 16) (hD : H0 D = none) (hoff : ∀ r, W.rok r = true → D ≠ ad r) (hd : H D = some (.lst ((List.range W.many).map fun e => V.bl (f e)))) :
    ∃ H4, DPut H (ad .md) (.int (k : Int)) (.ref D) H4 ∧ WA H0 (putAd ad (.mask k) D) { W with ks := addK W.ks k, wm := fun q e => if q = k then f e else W.wm q e } H4 := by
  have hmd := A.at_ .md rfl
  have hlen : (W.ks.map fun (k : Nat) => ((Sum.inl (k : Int) : Key), V.ref (ad (.mask k)))).length < sizeLine := by
    rw [List.length_map]
    have h1 : W.ks.length ≤ 16 := by
      exact nd_len 16 W.ks A.wf.knd A.wf.k16
    exact sz_lt (by omega)
  refine ⟨_, DPut.k (k := Sum.inl (k : Int)) hmd hlen, ?_⟩
  rw [putK_map (f := fun k => V.ref (ad (.mask k)))]
  have rokK : ∀ r, ({ W with ks := addK W.ks k, wm := fun q e => if q = k then f e else W.wm q e } : WS).rok r = true → r ≠ .mask k → W.rok r = true := fun r h hn => by
    cases r with
    | mask i =>
      have h1 := of_decide_eq_true (p := i ∈ addK W.ks k) h
      exact decide_eq_true ((mem_addK.mp h1).resolve_left fun z => hn (by rw [z]))
    | _ => exact h
  have keep : ∀ r, r ≠ .mask k → r ≠ .md → contW (putAd ad (.mask k) D) { W with ks := addK W.ks k, wm := fun q e => if q = k then f e else W.wm q e } r = contW ad W r := fun r h1 h2 => by
    cases r with
    | md => exact (h2 rfl).elim
    | mask i =>
      show HO.lst ((List.range W.many).map fun e => V.bl (if i = k then f e else W.wm i e)) = HO.lst ((List.range W.many).map fun e => V.bl (W.wm i e))
      congr 1
      refine List.map_congr_left fun e _ => ?_
      rw [if_neg (fun z => h1 (by rw [z]))]
    | _ => rfl
  refine ⟨⟨A.wf.n8, A.wf.m1, ?_, fun x hx => ?_, mem_addK.mpr (.inr A.wf.k0), A.wf.sek, A.wf.sok, A.wf.prk, A.wf.lnb, A.wf.lnr⟩, fun r r' h h' e => ?_, fun r h => ?_, fun r h => ?_, same_upd A.same (A.off .md rfl)⟩
  · show (addK W.ks k).Nodup
    unfold addK
    split
    · exact A.wf.knd
    · rename_i hn
      exact List.nodup_append.mpr ⟨A.wf.knd, by simp, fun a ha b hb => by simp at hb; subst hb; exact fun z => hn (by rw [← z]; exact ha)⟩
  · rcases mem_addK.mp hx with e | e
    · omega
    · exact A.wf.k16 x e
  · by_cases c : r = .mask k
    · by_cases c' : r' = .mask k
      · rw [c, c']
      · rw [c, putAd_same, putAd_ne c'] at e
        exact (hoff r' (rokK r' h' c') e).elim
    · by_cases c' : r' = .mask k
      · rw [c', putAd_same, putAd_ne c] at e
        exact (hoff r (rokK r h c) e.symm).elim
      · rw [putAd_ne c, putAd_ne c'] at e
        exact A.inj r r' (rokK r h c) (rokK r' h' c') e
  · by_cases c : r = .mask k
    · rw [c, putAd_same]
      exact hD
    · rw [putAd_ne c]
      exact A.off r (rokK r h c)
  · by_cases c : r = .mask k
    · subst c
      rw [putAd_same, upd_ne (hoff .md rfl), hd]
      show _ = some (HO.lst ((List.range W.many).map fun e => V.bl (if k = k then f e else W.wm k e)))
      simp
    · rw [putAd_ne c]
      by_cases c2 : r = .md
      · subst c2
        rw [upd_same]
        show _ = some (HO.dK ((addK W.ks k).map fun (i : Nat) => ((Sum.inl (i : Int) : Key), V.ref (putAd ad (.mask k) D (.mask i)))))
        congr 2
        refine List.map_congr_left fun i _ => ?_
        unfold putAd
        by_cases c3 : i = k
        · rw [if_pos c3, if_pos (by rw [c3])]
        · rw [if_neg c3, if_neg (fun z => c3 (by cases z; rfl))]
      · rw [upd_ne (fun z => c2 (A.inj r .md (rokK r h c) rfl z)), A.at_ r (rokK r h c), keep r c c2]
end
end Rb
end

section
set_option Elab.async false
set_option linter.all false
set_option maxRecDepth 100000
set_option maxHeartbeats 4000000
namespace Rb
open PySem PySem.Spec PyProof.Rows L2

/-! ### the law's world: what its steps read and do -/
def WS.num (W : WS) (q e : Nat) : Int := (W.se q e).getD 0
def WS.act (W : WS) (md e : Nat) : Bool := W.wm md e && (W.fa e).isNone
def WS.actL (W : WS) (md : Nat) : List Nat := (List.range W.many).filter (W.act md)
theorem mem_wact {W : WS} {md e : Nat} : e ∈ W.actL md ↔ e < W.many ∧ W.act md e = true := by
  unfold WS.actL
  rw [List.mem_filter, List.mem_range]
def WS.rd (W : WS) (e : Nat) : Stp → List (Option Int)
  | .copy _ q _ => [W.se q e]
  | .choose _ p _ => [W.se p e]
  | .other _ p _ => [W.se p e]
  | .save _ p _ => [W.se p e]
  | .gather _ q _ _ => [W.se q e]
  | .store _ p _ => [W.se p e]
  | .reach p _ _ => [W.se p e]
  | .op _ _ q r _ => [W.se q e, W.se r e]
  | .bring _ s _ => [W.so s e]
  | .pick _ q r k _ => [if W.wm k e = true then W.se q e else W.se r e]
  | .put _ q p _ => [W.se p e, W.se q e]
  | .fold _ _ p _ => [W.se p e, some 0]
  | .running _ _ p _ => [W.se p e, some 0]
  | _ => []
def WS.laid (W : WS) (st : Stp) : Prop := ∀ e ∈ W.actL st.mask, none ∉ W.rd e st
/-- the places a step names lie in the world -/
def WS.ok (W : WS) (st : Stp) : Prop := st.mask ∈ W.ks ∧ match st with
  | .number p n _ => p < W.nse ∧ KR n
  | .here p _ => p < W.nse
  | .load p row _ => p < W.nse ∧ row < 2
  | .spread p row _ => p < W.nse ∧ row < 3
  | .shift p row b o _ => p < W.nse ∧ row < 3 ∧ KR o ∧ -100 < b ∧ b < 100
  | .gather p q row _ => p < W.nse ∧ q < W.nse ∧ row < 3
  | .op p s q r _ => p < W.nse ∧ q < W.nse ∧ r < W.nse ∧ (PyData.str s).canLay0 = true
  | .pick p q r k _ => p < W.nse ∧ q < W.nse ∧ r < W.nse ∧ k ∈ W.ks
  | .copy p q _ => p < W.nse ∧ q < W.nse
  | .bring p s _ => p < W.nse ∧ s < 60
  | .choose k p _ => p < W.nse ∧ k < 16
  | .other k p _ => p < W.nse ∧ k < 16
  | .save s p _ => p < W.nse ∧ s < 60
  | .reach p _ _ => p < W.nse
  | .store row p _ => p < W.nse ∧ row = 3
  | .put row q p _ => p < W.nse ∧ q < W.nse ∧ row = 5
  | .fold row f p _ => p < W.nse ∧ row = 6 ∧ Fold9 f
  | .running row f p _ => p < W.nse ∧ row = 4 ∧ Fold9 f
  | _ => False
theorem Stp.atM {st : Stp} (h : st.eff = true) : atI st.vals (-1) = some (.int (st.mask : Int)) := by
  cases st <;> first | rfl | cases h
theorem WS.ok.eff {W : WS} {st : Stp} (h : W.ok st) : st.eff = true := by
  cases st <;> first | rfl | exact h.2.elim
theorem nil_sz : ([] : List V).length ≤ sizeLine := Nat.zero_le _
theorem one_sz {x : V} : [x].length ≤ sizeLine := by
  show 1 ≤ sizeLine
  decide
theorem two_sz {x y : V} : [x, y].length ≤ sizeLine := by
  show 2 ≤ sizeLine
  decide
theorem inTup {K : PySem.W.Frag} {x : V} {ws : List V} {H : Hp} {R : VK} (hl : ws.length ≤ sizeLine) (hf : flatV x = true ∧ ws.all flatV = true) (h : ∀ H', Same H H' → R (.bl (inV x ws)) H') : ws.length ≤ sizeLine ∧ ∀ p, H p = none → rIn K false x (.ref p) (upd H p (.tup ws)) R :=
  ⟨hl, fun p hp => ⟨p, ws, rfl, .inr (SqT.of upd_same), hf.1, hf.2, h _ (same_new hp)⟩⟩
theorem inT {w b : Str} {ws : List V} {A B : Prop} (e : w = b) (h : inV (.str b) ws = true) (a : A) : if inV (.str w) ws = true then A else B := by
  rw [e, if_pos h]
  exact a
theorem inF {w b : Str} {ws : List V} {A B : Prop} (e : w = b) (h : inV (.str b) ws = false) (z : B) : if inV (.str w) ws = true then A else B := by
  rw [e, if_neg (by rw [h]; decide)]
  exact z
theorem flat_ov : ∀ (xs : List (Option Int)), (xs.map ov).all flatV = true
  | [] => rfl
  | none :: r => flat_ov r
  | some n :: r => flat_ov r
theorem inV_ov : ∀ (xs : List (Option Int)), inV .non (xs.map ov) = decide (none ∈ xs)
  | [] => rfl
  | none :: r => by
    rw [decide_eq_true List.mem_cons_self]
    rfl
  | some n :: r => by
    have h := inV_ov r
    show (inV .non (r.map ov)) = _
    rw [h]
    simp
def sp__law_active (K : PySem.W.Frag) : Sp := fun vs H Q _ => ∃ (H0 : Hp) (ad : Rw → Addr) (W : WS) (md : Nat), vs = [.ref (ad .wd), .int md] ∧ WA H0 ad W H ∧ md ∈ W.ks ∧
  ∀ p H', H p = none → Same H H' → H' p = some (.lst ((W.actL md).map fun (e : Nat) => V.int (e : Int))) → Q (.ref p) H'
theorem sc__law_active : FnScope ["_law_world", "_law_m", "_law_e"] ["_law_world", "_law_m"] (defScope s__law_active) := ⟨rfl, rfl, rfl, by decide +kernel, rfl, by decide +kernel, by decide +kernel⟩
theorem ok__law_active {P : Program} {w : World} {K : PySem.W.Frag} {mg : Str → Option Value} {base : Heap} (T : Txt w K mg) : FnOk P w K mg base CX0 1 (ad__law_active K) (fdOf K (ad__law_active K)) ["_law_world", "_law_m"] (sp__law_active K) := by
  refine T.f__law_active.ok sc__law_active (fun vs H Q E h => ?_) (fun cdv A outer s H vs Q E hr h => ?_)
  · obtain ⟨_, _, _, _, rfl, _⟩ := h
    rfl
  · have hu := hu_of hr
    have nd := sc__law_active.nd
    refine ⟨_, PSs.nox ((pss_one (ps_ret (pe_lc (own := [("_law_e", 2)]) (g := gName 2) rfl nd (pi_range1 rfl T.b_range (pa_cons (pe_callB call_len_seq rfl T.b_len PySem.boot_len (pa_cons (pe_dget hu (pv 0) pe_str (fun _ _ => rfl)) pa_nil)) pa_nil)) (blkOk_by (N := ["_law_world", "_law_m", "_law_e"]) (sc := defScope s__law_active) (by decide +kernel)) (fun _ _ _ _ _ => pg_name (i := 2) nd rfl (Or.inl rfl)) (fun _ _ _ _ _ => (pts_one (PW.pt (pw_and (pt_val (pe_ix (ixLK K) (pe_dget hu (pe_dget hu (pv 0) pe_str (fun _ _ => rfl)) (pv 1) (fun _ _ => rfl)) (pv 2) (fun _ _ => rfl))) (pw_and1 (pt_cmpR op_isN (pe_ix (ixLK K) (pe_dget hu (pv 0) pe_str (fun _ _ => rfl)) (pv 2) (fun _ _ => rfl)) pe_non (nomark _))))))) (fun _ _ _ _ _ => (pv 2)))))), ?_⟩
    obtain ⟨H0, ad, W, md, rfl, A, hk, kQ⟩ := h
    have hm := A.wf.m1
    refine ⟨_, rfl, _, _, rfl, A.d2, _, _, rfl, .inl A.flL, ?_⟩
    rw [List.length_map, List.length_range]
    refine ⟨_, rfl, by omega, by omega, fun D hD => ?_⟩
    rw [Int.toNat_natCast]
    refine comp_rangeF hD (fun j => V.int (j : Int)) (W.act md) (by omega) (fun i H' hi s1 Q' q => ?_) (fun i H' hi hti s1 Q' q => ?_) (fun H' s1 h1 => kQ _ _ hD s1 h1)
    · have e : (0 : Int) + (i : Int) = (i : Int) := Int.zero_add _
      rw [e]
      have A1 := A.sm s1
      refine ⟨_, rfl, _, _, rfl, A1.d3, _, rfl, _, _, rfl, A1.dm hk, _, rfl, _, _, _, _, rfl, rfl, A1.maskL hk, atI_of rfl (rm_get hi), ?_⟩
      refine ⟨_, rfl, ?_⟩
      cases hb : W.wm md i with
      | false =>
        have e2 : W.act md i = false := by unfold WS.act; rw [hb]; rfl
        rw [e2] at q
        exact q _ (Same.refl _)
      | true =>
        have e2 : W.act md i = decide (fv (W.fa i) = .non) := by
          unfold WS.act
          rw [hb]
          cases W.fa i <;> rfl
        rw [e2] at q
        exact ⟨_, rfl, _, _, rfl, A1.d2, _, rfl, _, _, _, _, rfl, rfl, A1.flL, atI_of rfl (rm_get hi), rfl, _, rfl, q _ (Same.refl _)⟩
    · refine ⟨_, rfl, ?_⟩
      have e : (0 : Int) + (i : Int) = (i : Int) := Int.zero_add _
      rw [e]
      exact q _ (Same.refl _)
theorem cal__law_active {P : Program} {w : World} {K : PySem.W.Frag} {mg : Str → Option Value} {base : Heap} (T : Txt w K mg) : Cal P w K mg base 1 "_law_active" ["_law_world", "_law_m"] (sp__law_active K) := ⟨_, _, ok__law_active T, T.g__law_active, T.f__law_active.kp, T.f__law_active.bindsN (ps := ["_law_world", "_law_m"]) fun _ _ _ _ _ _ us hl => match us, hl with | [_, _], _ => rfl⟩
def sp__law_read (K : PySem.W.Frag) : Sp := fun vs H Q _ => ∃ (H0 : Hp) (ad : Rw → Addr) (W : WS) (sa : Addr) (st : Stp) (e : Nat), vs = [.ref (ad .wd), .ref sa, .int e] ∧ WA H0 ad W H ∧ H0 sa = some (.tup st.vals) ∧ W.ok st ∧ e < W.many ∧
  ∀ p H', H p = none → Same H H' → H' p = some (.lst ((W.rd e st).map ov)) → Q (.ref p) H'
theorem sc__law_read : FnScope ["_law_world", "_law_step_here", "_law_e", "_law_seats"] ["_law_world", "_law_step_here", "_law_e"] (defScope s__law_read) := ⟨rfl, rfl, rfl, by decide +kernel, rfl, by decide +kernel, by decide +kernel⟩
theorem ok__law_read {P : Program} {w : World} {K : PySem.W.Frag} {mg : Str → Option Value} {base : Heap} (T : Txt w K mg) : FnOk P w K mg base CX0 1 (ad__law_read K) (fdOf K (ad__law_read K)) ["_law_world", "_law_step_here", "_law_e"] (sp__law_read K) := by
  refine T.f__law_read.ok sc__law_read (fun vs H Q E h => ?_) (fun cdv A outer s H vs Q E hr h => ?_)
  · obtain ⟨_, _, _, _, _, _, rfl, _⟩ := h
    rfl
  · have hu := hu_of hr
    have nd := sc__law_read.nd
    refine ⟨_, PSs.nox ((pss_cons (ps_set (i := 3) nd rfl (Or.inl rfl) (pe_dget hu (pv 0) pe_str (fun _ _ => rfl)))
      (pss_cons (ps_if (pt_cmpR op_in_seq (pe_ix ix_tup (pv 1) pe_int (fun _ _ => rfl)) (pe_tup (pa_cons pe_str (pa_cons pe_str (pa_cons pe_str (pa_cons pe_str (pa_cons pe_str (pa_cons pe_str pa_nil))))))) (by rfl))
      (pss_one (ps_ret (pe_lst (pa_cons (pe_ix ix_list (pe_ix ix_list (pv 3) (pe_ix ix_tup (pv 1) pe_int (fun _ _ => rfl)) (fun _ _ => rfl)) (pv 2) (fun _ _ => rfl)) pa_nil))))
      pss_nil)
      (pss_cons (ps_if (pt_cmpR op_eq (pe_ix ix_tup (pv 1) pe_int (fun _ _ => rfl)) pe_str (nomark _))
      (pss_one (ps_ret (pe_lst (pa_cons (pe_ix ix_list (pe_ix ix_list (pv 3) (pe_ix ix_tup (pv 1) pe_int (fun _ _ => rfl)) (fun _ _ => rfl)) (pv 2) (fun _ _ => rfl)) pa_nil))))
      pss_nil)
      (pss_cons (ps_if (pt_cmpR op_eq (pe_ix ix_tup (pv 1) pe_int (fun _ _ => rfl)) pe_str (nomark _))
      (pss_one (ps_ret (pe_lst (pa_cons (pe_ix ix_list (pe_ix ix_list (pv 3) (pe_ix ix_tup (pv 1) pe_int (fun _ _ => rfl)) (fun _ _ => rfl)) (pv 2) (fun _ _ => rfl)) (pa_cons (pe_ix ix_list (pe_ix ix_list (pv 3) (pe_ix ix_tup (pv 1) pe_int (fun _ _ => rfl)) (fun _ _ => rfl)) (pv 2) (fun _ _ => rfl)) pa_nil)))))
      pss_nil)
      (pss_cons (ps_if (pt_cmpR op_eq (pe_ix ix_tup (pv 1) pe_int (fun _ _ => rfl)) pe_str (nomark _))
      (pss_one (ps_ret (pe_lst (pa_cons (pe_ix ix_list (pe_ix ix_list (pe_dget hu (pv 0) pe_str (fun _ _ => rfl)) (pe_ix ix_tup (pv 1) pe_int (fun _ _ => rfl)) (fun _ _ => rfl)) (pv 2) (fun _ _ => rfl)) pa_nil))))
      pss_nil)
      (pss_cons (ps_if (pt_cmpR op_eq (pe_ix ix_tup (pv 1) pe_int (fun _ _ => rfl)) pe_str (nomark _))
      (pss_one (ps_ret (pe_lst (pa_cons (pe_ifExp (pt_val (pe_ix ix_list (pe_dget hu (pe_dget hu (pv 0) pe_str (fun _ _ => rfl)) (pe_ix ix_tup (pv 1) pe_int (fun _ _ => rfl)) (fun _ _ => rfl)) (pv 2) (fun _ _ => rfl))) (pe_ix ix_list (pe_ix ix_list (pv 3) (pe_ix ix_tup (pv 1) pe_int (fun _ _ => rfl)) (fun _ _ => rfl)) (pv 2) (fun _ _ => rfl)) (pe_ix ix_list (pe_ix ix_list (pv 3) (pe_ix ix_tup (pv 1) pe_int (fun _ _ => rfl)) (fun _ _ => rfl)) (pv 2) (fun _ _ => rfl))) pa_nil))))
      pss_nil)
      (pss_cons (ps_if (pt_cmpR op_in_seq (pe_ix ix_tup (pv 1) pe_int (fun _ _ => rfl)) (pe_tup (pa_cons pe_str (pa_cons pe_str (pa_cons pe_str pa_nil)))) (by rfl))
      (pss_one (ps_ret (pe_lst (pa_cons (pe_ix ix_list (pe_ix ix_list (pv 3) (pe_ix ix_tup (pv 1) pe_int (fun _ _ => rfl)) (fun _ _ => rfl)) (pv 2) (fun _ _ => rfl)) (pa_cons (pe_ifExp (pt_cmpR op_eq (pe_ix ix_tup (pv 1) pe_int (fun _ _ => rfl)) pe_str (nomark _)) (pe_ix ix_list (pe_ix ix_list (pv 3) (pe_ix ix_tup (pv 1) pe_int (fun _ _ => rfl)) (fun _ _ => rfl)) (pv 2) (fun _ _ => rfl)) pe_int) pa_nil)))))
      pss_nil)
      (pss_one (ps_ret (pe_lst pa_nil))))))))))), ?_⟩
    obtain ⟨H0, ad, W, sa, st, e, rfl, A, hs, ok, he, kQ⟩ := h
    refine ⟨_, rfl, _, _, rfl, A.d1, ?_⟩
    cases st with
    | number p n md =>
      refine ⟨_, rfl, _, _, _, _, rfl, rfl, A.tup hs, atI_of (j := 0) rfl rfl, inTup (by decide) ⟨rfl, rfl⟩ fun H1 s1 => ⟨_, rfl, inF (b := "number") rfl (by decide +kernel) ?_⟩⟩
      have A1 := A.sm s1
      refine ⟨_, rfl, _, _, _, _, rfl, rfl, A1.tup hs, atI_of (j := 0) rfl rfl, rfl, _, rfl, iteDF (wne (b := "number") rfl (by decide +kernel)) ?_⟩
      refine ⟨_, rfl, _, _, _, _, rfl, rfl, A1.tup hs, atI_of (j := 0) rfl rfl, rfl, _, rfl, iteDF (wne (b := "number") rfl (by decide +kernel)) ?_⟩
      refine ⟨_, rfl, _, _, _, _, rfl, rfl, A1.tup hs, atI_of (j := 0) rfl rfl, rfl, _, rfl, iteDF (wne (b := "number") rfl (by decide +kernel)) ?_⟩
      refine ⟨_, rfl, _, _, _, _, rfl, rfl, A1.tup hs, atI_of (j := 0) rfl rfl, rfl, _, rfl, iteDF (wne (b := "number") rfl (by decide +kernel)) ?_⟩
      refine ⟨_, rfl, _, _, _, _, rfl, rfl, A1.tup hs, atI_of (j := 0) rfl rfl, inTup (by decide) ⟨rfl, rfl⟩ fun H2 s2 => ⟨_, rfl, inF (b := "number") rfl (by decide +kernel) ?_⟩⟩
      have A2 := A1.sm s2
      exact ⟨nil_sz, fun p' hp' => kQ p' _ ((s1.trans s2).free hp') ((s1.trans s2).trans (same_new hp')) upd_same⟩
    | here p md =>
      refine ⟨_, rfl, _, _, _, _, rfl, rfl, A.tup hs, atI_of (j := 0) rfl rfl, inTup (by decide) ⟨rfl, rfl⟩ fun H1 s1 => ⟨_, rfl, inF (b := "here") rfl (by decide +kernel) ?_⟩⟩
      have A1 := A.sm s1
      refine ⟨_, rfl, _, _, _, _, rfl, rfl, A1.tup hs, atI_of (j := 0) rfl rfl, rfl, _, rfl, iteDF (wne (b := "here") rfl (by decide +kernel)) ?_⟩
      refine ⟨_, rfl, _, _, _, _, rfl, rfl, A1.tup hs, atI_of (j := 0) rfl rfl, rfl, _, rfl, iteDF (wne (b := "here") rfl (by decide +kernel)) ?_⟩
      refine ⟨_, rfl, _, _, _, _, rfl, rfl, A1.tup hs, atI_of (j := 0) rfl rfl, rfl, _, rfl, iteDF (wne (b := "here") rfl (by decide +kernel)) ?_⟩
      refine ⟨_, rfl, _, _, _, _, rfl, rfl, A1.tup hs, atI_of (j := 0) rfl rfl, rfl, _, rfl, iteDF (wne (b := "here") rfl (by decide +kernel)) ?_⟩
      refine ⟨_, rfl, _, _, _, _, rfl, rfl, A1.tup hs, atI_of (j := 0) rfl rfl, inTup (by decide) ⟨rfl, rfl⟩ fun H2 s2 => ⟨_, rfl, inF (b := "here") rfl (by decide +kernel) ?_⟩⟩
      have A2 := A1.sm s2
      exact ⟨nil_sz, fun p' hp' => kQ p' _ ((s1.trans s2).free hp') ((s1.trans s2).trans (same_new hp')) upd_same⟩
    | load p row md =>
      refine ⟨_, rfl, _, _, _, _, rfl, rfl, A.tup hs, atI_of (j := 0) rfl rfl, inTup (by decide) ⟨rfl, rfl⟩ fun H1 s1 => ⟨_, rfl, inF (b := "load") rfl (by decide +kernel) ?_⟩⟩
      have A1 := A.sm s1
      refine ⟨_, rfl, _, _, _, _, rfl, rfl, A1.tup hs, atI_of (j := 0) rfl rfl, rfl, _, rfl, iteDF (wne (b := "load") rfl (by decide +kernel)) ?_⟩
      refine ⟨_, rfl, _, _, _, _, rfl, rfl, A1.tup hs, atI_of (j := 0) rfl rfl, rfl, _, rfl, iteDF (wne (b := "load") rfl (by decide +kernel)) ?_⟩
      refine ⟨_, rfl, _, _, _, _, rfl, rfl, A1.tup hs, atI_of (j := 0) rfl rfl, rfl, _, rfl, iteDF (wne (b := "load") rfl (by decide +kernel)) ?_⟩
      refine ⟨_, rfl, _, _, _, _, rfl, rfl, A1.tup hs, atI_of (j := 0) rfl rfl, rfl, _, rfl, iteDF (wne (b := "load") rfl (by decide +kernel)) ?_⟩
      refine ⟨_, rfl, _, _, _, _, rfl, rfl, A1.tup hs, atI_of (j := 0) rfl rfl, inTup (by decide) ⟨rfl, rfl⟩ fun H2 s2 => ⟨_, rfl, inF (b := "load") rfl (by decide +kernel) ?_⟩⟩
      have A2 := A1.sm s2
      exact ⟨nil_sz, fun p' hp' => kQ p' _ ((s1.trans s2).free hp') ((s1.trans s2).trans (same_new hp')) upd_same⟩
    | spread p row md =>
      refine ⟨_, rfl, _, _, _, _, rfl, rfl, A.tup hs, atI_of (j := 0) rfl rfl, inTup (by decide) ⟨rfl, rfl⟩ fun H1 s1 => ⟨_, rfl, inF (b := "spread") rfl (by decide +kernel) ?_⟩⟩
      have A1 := A.sm s1
      refine ⟨_, rfl, _, _, _, _, rfl, rfl, A1.tup hs, atI_of (j := 0) rfl rfl, rfl, _, rfl, iteDF (wne (b := "spread") rfl (by decide +kernel)) ?_⟩
      refine ⟨_, rfl, _, _, _, _, rfl, rfl, A1.tup hs, atI_of (j := 0) rfl rfl, rfl, _, rfl, iteDF (wne (b := "spread") rfl (by decide +kernel)) ?_⟩
      refine ⟨_, rfl, _, _, _, _, rfl, rfl, A1.tup hs, atI_of (j := 0) rfl rfl, rfl, _, rfl, iteDF (wne (b := "spread") rfl (by decide +kernel)) ?_⟩
      refine ⟨_, rfl, _, _, _, _, rfl, rfl, A1.tup hs, atI_of (j := 0) rfl rfl, rfl, _, rfl, iteDF (wne (b := "spread") rfl (by decide +kernel)) ?_⟩
      refine ⟨_, rfl, _, _, _, _, rfl, rfl, A1.tup hs, atI_of (j := 0) rfl rfl, inTup (by decide) ⟨rfl, rfl⟩ fun H2 s2 => ⟨_, rfl, inF (b := "spread") rfl (by decide +kernel) ?_⟩⟩
      have A2 := A1.sm s2
      exact ⟨nil_sz, fun p' hp' => kQ p' _ ((s1.trans s2).free hp') ((s1.trans s2).trans (same_new hp')) upd_same⟩
    | shift p row b o md =>
      refine ⟨_, rfl, _, _, _, _, rfl, rfl, A.tup hs, atI_of (j := 0) rfl rfl, inTup (by decide) ⟨rfl, rfl⟩ fun H1 s1 => ⟨_, rfl, inF (b := "shift") rfl (by decide +kernel) ?_⟩⟩
      have A1 := A.sm s1
      refine ⟨_, rfl, _, _, _, _, rfl, rfl, A1.tup hs, atI_of (j := 0) rfl rfl, rfl, _, rfl, iteDF (wne (b := "shift") rfl (by decide +kernel)) ?_⟩
      refine ⟨_, rfl, _, _, _, _, rfl, rfl, A1.tup hs, atI_of (j := 0) rfl rfl, rfl, _, rfl, iteDF (wne (b := "shift") rfl (by decide +kernel)) ?_⟩
      refine ⟨_, rfl, _, _, _, _, rfl, rfl, A1.tup hs, atI_of (j := 0) rfl rfl, rfl, _, rfl, iteDF (wne (b := "shift") rfl (by decide +kernel)) ?_⟩
      refine ⟨_, rfl, _, _, _, _, rfl, rfl, A1.tup hs, atI_of (j := 0) rfl rfl, rfl, _, rfl, iteDF (wne (b := "shift") rfl (by decide +kernel)) ?_⟩
      refine ⟨_, rfl, _, _, _, _, rfl, rfl, A1.tup hs, atI_of (j := 0) rfl rfl, inTup (by decide) ⟨rfl, rfl⟩ fun H2 s2 => ⟨_, rfl, inF (b := "shift") rfl (by decide +kernel) ?_⟩⟩
      have A2 := A1.sm s2
      exact ⟨nil_sz, fun p' hp' => kQ p' _ ((s1.trans s2).free hp') ((s1.trans s2).trans (same_new hp')) upd_same⟩
    | gather p q row md =>
      refine ⟨_, rfl, _, _, _, _, rfl, rfl, A.tup hs, atI_of (j := 0) rfl rfl, inTup (by decide) ⟨rfl, rfl⟩ fun H1 s1 => ⟨_, rfl, inT (b := "gather") rfl (by decide +kernel) ?_⟩⟩
      have A1 := A.sm s1
      exact ⟨_, rfl, _, rfl, _, _, _, _, rfl, rfl, A1.tup hs, atI_of (j := 2) rfl rfl, _, _, _, _, rfl, rfl, A1.slL, atI_of rfl (rm_get ok.2.2.1), _, rfl, _, _, _, _, rfl, rfl, A1.seatL ok.2.2.1, atI_of rfl (rm_get he), one_sz, fun p' hp' => kQ p' _ (s1.free hp') (s1.trans (same_new hp')) upd_same⟩
    | op p s q r md =>
      refine ⟨_, rfl, _, _, _, _, rfl, rfl, A.tup hs, atI_of (j := 0) rfl rfl, inTup (by decide) ⟨rfl, rfl⟩ fun H1 s1 => ⟨_, rfl, inF (b := "op") rfl (by decide +kernel) ?_⟩⟩
      have A1 := A.sm s1
      refine ⟨_, rfl, _, _, _, _, rfl, rfl, A1.tup hs, atI_of (j := 0) rfl rfl, rfl, _, rfl, iteDF (wne (b := "op") rfl (by decide +kernel)) ?_⟩
      refine ⟨_, rfl, _, _, _, _, rfl, rfl, A1.tup hs, atI_of (j := 0) rfl rfl, rfl, _, rfl, iteDT rfl ?_⟩
      exact ⟨_, rfl, _, rfl, _, _, _, _, rfl, rfl, A1.tup hs, atI_of (j := 3) rfl rfl, _, _, _, _, rfl, rfl, A1.slL, atI_of rfl (rm_get ok.2.2.1), _, rfl, _, _, _, _, rfl, rfl, A1.seatL ok.2.2.1, atI_of rfl (rm_get he), _, rfl, _, rfl, _, _, _, _, rfl, rfl, A1.tup hs, atI_of (j := 4) rfl rfl, _, _, _, _, rfl, rfl, A1.slL, atI_of rfl (rm_get ok.2.2.2.1), _, rfl, _, _, _, _, rfl, rfl, A1.seatL ok.2.2.2.1, atI_of rfl (rm_get he), two_sz, fun p' hp' => kQ p' _ (s1.free hp') (s1.trans (same_new hp')) upd_same⟩
    | pick p q r k md =>
      refine ⟨_, rfl, _, _, _, _, rfl, rfl, A.tup hs, atI_of (j := 0) rfl rfl, inTup (by decide) ⟨rfl, rfl⟩ fun H1 s1 => ⟨_, rfl, inF (b := "pick") rfl (by decide +kernel) ?_⟩⟩
      have A1 := A.sm s1
      refine ⟨_, rfl, _, _, _, _, rfl, rfl, A1.tup hs, atI_of (j := 0) rfl rfl, rfl, _, rfl, iteDF (wne (b := "pick") rfl (by decide +kernel)) ?_⟩
      refine ⟨_, rfl, _, _, _, _, rfl, rfl, A1.tup hs, atI_of (j := 0) rfl rfl, rfl, _, rfl, iteDF (wne (b := "pick") rfl (by decide +kernel)) ?_⟩
      refine ⟨_, rfl, _, _, _, _, rfl, rfl, A1.tup hs, atI_of (j := 0) rfl rfl, rfl, _, rfl, iteDF (wne (b := "pick") rfl (by decide +kernel)) ?_⟩
      refine ⟨_, rfl, _, _, _, _, rfl, rfl, A1.tup hs, atI_of (j := 0) rfl rfl, rfl, _, rfl, iteDT rfl ?_⟩
      have kQ1 : ∀ x : Option Int, x = (if W.wm k e = true then W.se q e else W.se r e) → ∀ p', H1 p' = none → Q (.ref p') (upd H1 p' (.lst [ov x])) := fun x hx p' hp' => kQ p' _ (s1.free hp') (s1.trans (same_new hp')) (by rw [hx]; exact upd_same)
      refine ⟨_, rfl, _, _, rfl, A1.d3, _, rfl, _, _, _, _, rfl, rfl, A1.tup hs, atI_of (j := 4) rfl rfl, _, _, rfl, A1.dm ok.2.2.2.2, _, rfl, _, _, _, _, rfl, rfl, A1.maskL ok.2.2.2.2, atI_of rfl (rm_get he), ?_⟩
      cases hb : W.wm k e with
      | true => exact ⟨_, rfl, _, rfl, _, rfl, _, _, _, _, rfl, rfl, A1.tup hs, atI_of (j := 2) rfl rfl, _, _, _, _, rfl, rfl, A1.slL, atI_of rfl (rm_get ok.2.2.1), _, rfl, _, _, _, _, rfl, rfl, A1.seatL ok.2.2.1, atI_of rfl (rm_get he), one_sz, kQ1 _ (by rw [hb]; rfl)⟩
      | false => exact ⟨_, rfl, _, rfl, _, rfl, _, _, _, _, rfl, rfl, A1.tup hs, atI_of (j := 3) rfl rfl, _, _, _, _, rfl, rfl, A1.slL, atI_of rfl (rm_get ok.2.2.2.1), _, rfl, _, _, _, _, rfl, rfl, A1.seatL ok.2.2.2.1, atI_of rfl (rm_get he), one_sz, kQ1 _ (by rw [hb]; rfl)⟩
    | copy p q md =>
      refine ⟨_, rfl, _, _, _, _, rfl, rfl, A.tup hs, atI_of (j := 0) rfl rfl, inTup (by decide) ⟨rfl, rfl⟩ fun H1 s1 => ⟨_, rfl, inT (b := "copy") rfl (by decide +kernel) ?_⟩⟩
      have A1 := A.sm s1
      exact ⟨_, rfl, _, rfl, _, _, _, _, rfl, rfl, A1.tup hs, atI_of (j := 2) rfl rfl, _, _, _, _, rfl, rfl, A1.slL, atI_of rfl (rm_get ok.2.2), _, rfl, _, _, _, _, rfl, rfl, A1.seatL ok.2.2, atI_of rfl (rm_get he), one_sz, fun p' hp' => kQ p' _ (s1.free hp') (s1.trans (same_new hp')) upd_same⟩
    | bring p s md =>
      refine ⟨_, rfl, _, _, _, _, rfl, rfl, A.tup hs, atI_of (j := 0) rfl rfl, inTup (by decide) ⟨rfl, rfl⟩ fun H1 s1 => ⟨_, rfl, inF (b := "bring") rfl (by decide +kernel) ?_⟩⟩
      have A1 := A.sm s1
      refine ⟨_, rfl, _, _, _, _, rfl, rfl, A1.tup hs, atI_of (j := 0) rfl rfl, rfl, _, rfl, iteDF (wne (b := "bring") rfl (by decide +kernel)) ?_⟩
      refine ⟨_, rfl, _, _, _, _, rfl, rfl, A1.tup hs, atI_of (j := 0) rfl rfl, rfl, _, rfl, iteDF (wne (b := "bring") rfl (by decide +kernel)) ?_⟩
      refine ⟨_, rfl, _, _, _, _, rfl, rfl, A1.tup hs, atI_of (j := 0) rfl rfl, rfl, _, rfl, iteDT rfl ?_⟩
      exact ⟨_, rfl, _, _, rfl, A1.d4, _, rfl, _, _, _, _, rfl, rfl, A1.tup hs, atI_of (j := 2) rfl rfl, _, _, _, _, rfl, rfl, A1.tlL, atI_of rfl (rm_get ok.2.2), _, rfl, _, _, _, _, rfl, rfl, A1.slotL ok.2.2, atI_of rfl (rm_get he), one_sz, fun p' hp' => kQ p' _ (s1.free hp') (s1.trans (same_new hp')) upd_same⟩
    | choose k p md =>
      refine ⟨_, rfl, _, _, _, _, rfl, rfl, A.tup hs, atI_of (j := 0) rfl rfl, inTup (by decide) ⟨rfl, rfl⟩ fun H1 s1 => ⟨_, rfl, inT (b := "choose") rfl (by decide +kernel) ?_⟩⟩
      have A1 := A.sm s1
      exact ⟨_, rfl, _, rfl, _, _, _, _, rfl, rfl, A1.tup hs, atI_of (j := 2) rfl rfl, _, _, _, _, rfl, rfl, A1.slL, atI_of rfl (rm_get ok.2.1), _, rfl, _, _, _, _, rfl, rfl, A1.seatL ok.2.1, atI_of rfl (rm_get he), one_sz, fun p' hp' => kQ p' _ (s1.free hp') (s1.trans (same_new hp')) upd_same⟩
    | other k p md =>
      refine ⟨_, rfl, _, _, _, _, rfl, rfl, A.tup hs, atI_of (j := 0) rfl rfl, inTup (by decide) ⟨rfl, rfl⟩ fun H1 s1 => ⟨_, rfl, inT (b := "other") rfl (by decide +kernel) ?_⟩⟩
      have A1 := A.sm s1
      exact ⟨_, rfl, _, rfl, _, _, _, _, rfl, rfl, A1.tup hs, atI_of (j := 2) rfl rfl, _, _, _, _, rfl, rfl, A1.slL, atI_of rfl (rm_get ok.2.1), _, rfl, _, _, _, _, rfl, rfl, A1.seatL ok.2.1, atI_of rfl (rm_get he), one_sz, fun p' hp' => kQ p' _ (s1.free hp') (s1.trans (same_new hp')) upd_same⟩
    | save s p md =>
      refine ⟨_, rfl, _, _, _, _, rfl, rfl, A.tup hs, atI_of (j := 0) rfl rfl, inTup (by decide) ⟨rfl, rfl⟩ fun H1 s1 => ⟨_, rfl, inT (b := "save") rfl (by decide +kernel) ?_⟩⟩
      have A1 := A.sm s1
      exact ⟨_, rfl, _, rfl, _, _, _, _, rfl, rfl, A1.tup hs, atI_of (j := 2) rfl rfl, _, _, _, _, rfl, rfl, A1.slL, atI_of rfl (rm_get ok.2.1), _, rfl, _, _, _, _, rfl, rfl, A1.seatL ok.2.1, atI_of rfl (rm_get he), one_sz, fun p' hp' => kQ p' _ (s1.free hp') (s1.trans (same_new hp')) upd_same⟩
    | reach p n md =>
      refine ⟨_, rfl, _, _, _, _, rfl, rfl, A.tup hs, atI_of (j := 0) rfl rfl, inTup (by decide) ⟨rfl, rfl⟩ fun H1 s1 => ⟨_, rfl, inF (b := "reach") rfl (by decide +kernel) ?_⟩⟩
      have A1 := A.sm s1
      refine ⟨_, rfl, _, _, _, _, rfl, rfl, A1.tup hs, atI_of (j := 0) rfl rfl, rfl, _, rfl, iteDT rfl ?_⟩
      exact ⟨_, rfl, _, rfl, _, _, _, _, rfl, rfl, A1.tup hs, atI_of (j := 1) rfl rfl, _, _, _, _, rfl, rfl, A1.slL, atI_of rfl (rm_get ok.2), _, rfl, _, _, _, _, rfl, rfl, A1.seatL ok.2, atI_of rfl (rm_get he), one_sz, fun p' hp' => kQ p' _ (s1.free hp') (s1.trans (same_new hp')) upd_same⟩
    | store row p md =>
      refine ⟨_, rfl, _, _, _, _, rfl, rfl, A.tup hs, atI_of (j := 0) rfl rfl, inTup (by decide) ⟨rfl, rfl⟩ fun H1 s1 => ⟨_, rfl, inT (b := "store") rfl (by decide +kernel) ?_⟩⟩
      have A1 := A.sm s1
      exact ⟨_, rfl, _, rfl, _, _, _, _, rfl, rfl, A1.tup hs, atI_of (j := 2) rfl rfl, _, _, _, _, rfl, rfl, A1.slL, atI_of rfl (rm_get ok.2.1), _, rfl, _, _, _, _, rfl, rfl, A1.seatL ok.2.1, atI_of rfl (rm_get he), one_sz, fun p' hp' => kQ p' _ (s1.free hp') (s1.trans (same_new hp')) upd_same⟩
    | put row q p md =>
      refine ⟨_, rfl, _, _, _, _, rfl, rfl, A.tup hs, atI_of (j := 0) rfl rfl, inTup (by decide) ⟨rfl, rfl⟩ fun H1 s1 => ⟨_, rfl, inF (b := "put") rfl (by decide +kernel) ?_⟩⟩
      have A1 := A.sm s1
      refine ⟨_, rfl, _, _, _, _, rfl, rfl, A1.tup hs, atI_of (j := 0) rfl rfl, rfl, _, rfl, iteDF (wne (b := "put") rfl (by decide +kernel)) ?_⟩
      refine ⟨_, rfl, _, _, _, _, rfl, rfl, A1.tup hs, atI_of (j := 0) rfl rfl, rfl, _, rfl, iteDF (wne (b := "put") rfl (by decide +kernel)) ?_⟩
      refine ⟨_, rfl, _, _, _, _, rfl, rfl, A1.tup hs, atI_of (j := 0) rfl rfl, rfl, _, rfl, iteDF (wne (b := "put") rfl (by decide +kernel)) ?_⟩
      refine ⟨_, rfl, _, _, _, _, rfl, rfl, A1.tup hs, atI_of (j := 0) rfl rfl, rfl, _, rfl, iteDF (wne (b := "put") rfl (by decide +kernel)) ?_⟩
      refine ⟨_, rfl, _, _, _, _, rfl, rfl, A1.tup hs, atI_of (j := 0) rfl rfl, inTup (by decide) ⟨rfl, rfl⟩ fun H2 s2 => ⟨_, rfl, inT (b := "put") rfl (by decide +kernel) ?_⟩⟩
      have A2 := A1.sm s2
      exact ⟨_, rfl, _, rfl, _, _, _, _, rfl, rfl, A2.tup hs, atI_of (j := 3) rfl rfl, _, _, _, _, rfl, rfl, A2.slL, atI_of rfl (rm_get ok.2.1), _, rfl, _, _, _, _, rfl, rfl, A2.seatL ok.2.1, atI_of rfl (rm_get he), _, rfl, _, _, _, _, rfl, rfl, A2.tup hs, atI_of (j := 0) rfl rfl, rfl, _, rfl, iteDT rfl ⟨_, rfl, _, rfl, _, _, _, _, rfl, rfl, A2.tup hs, atI_of (j := 2) rfl rfl, _, _, _, _, rfl, rfl, A2.slL, atI_of rfl (rm_get ok.2.2.1), _, rfl, _, _, _, _, rfl, rfl, A2.seatL ok.2.2.1, atI_of rfl (rm_get he), two_sz, fun p' hp' => kQ p' _ ((s1.trans s2).free hp') ((s1.trans s2).trans (same_new hp')) upd_same⟩⟩
    | fold row f p md =>
      refine ⟨_, rfl, _, _, _, _, rfl, rfl, A.tup hs, atI_of (j := 0) rfl rfl, inTup (by decide) ⟨rfl, rfl⟩ fun H1 s1 => ⟨_, rfl, inF (b := "fold") rfl (by decide +kernel) ?_⟩⟩
      have A1 := A.sm s1
      refine ⟨_, rfl, _, _, _, _, rfl, rfl, A1.tup hs, atI_of (j := 0) rfl rfl, rfl, _, rfl, iteDF (wne (b := "fold") rfl (by decide +kernel)) ?_⟩
      refine ⟨_, rfl, _, _, _, _, rfl, rfl, A1.tup hs, atI_of (j := 0) rfl rfl, rfl, _, rfl, iteDF (wne (b := "fold") rfl (by decide +kernel)) ?_⟩
      refine ⟨_, rfl, _, _, _, _, rfl, rfl, A1.tup hs, atI_of (j := 0) rfl rfl, rfl, _, rfl, iteDF (wne (b := "fold") rfl (by decide +kernel)) ?_⟩
      refine ⟨_, rfl, _, _, _, _, rfl, rfl, A1.tup hs, atI_of (j := 0) rfl rfl, rfl, _, rfl, iteDF (wne (b := "fold") rfl (by decide +kernel)) ?_⟩
      refine ⟨_, rfl, _, _, _, _, rfl, rfl, A1.tup hs, atI_of (j := 0) rfl rfl, inTup (by decide) ⟨rfl, rfl⟩ fun H2 s2 => ⟨_, rfl, inT (b := "fold") rfl (by decide +kernel) ?_⟩⟩
      have A2 := A1.sm s2
      exact ⟨_, rfl, _, rfl, _, _, _, _, rfl, rfl, A2.tup hs, atI_of (j := 3) rfl rfl, _, _, _, _, rfl, rfl, A2.slL, atI_of rfl (rm_get ok.2.1), _, rfl, _, _, _, _, rfl, rfl, A2.seatL ok.2.1, atI_of rfl (rm_get he), _, rfl, _, _, _, _, rfl, rfl, A2.tup hs, atI_of (j := 0) rfl rfl, rfl, _, rfl, iteDF (wne (b := "fold") rfl (by decide +kernel)) ⟨two_sz, fun p' hp' => kQ p' _ ((s1.trans s2).free hp') ((s1.trans s2).trans (same_new hp')) upd_same⟩⟩
    | running row f p md =>
      refine ⟨_, rfl, _, _, _, _, rfl, rfl, A.tup hs, atI_of (j := 0) rfl rfl, inTup (by decide) ⟨rfl, rfl⟩ fun H1 s1 => ⟨_, rfl, inF (b := "running") rfl (by decide +kernel) ?_⟩⟩
      have A1 := A.sm s1
      refine ⟨_, rfl, _, _, _, _, rfl, rfl, A1.tup hs, atI_of (j := 0) rfl rfl, rfl, _, rfl, iteDF (wne (b := "running") rfl (by decide +kernel)) ?_⟩
      refine ⟨_, rfl, _, _, _, _, rfl, rfl, A1.tup hs, atI_of (j := 0) rfl rfl, rfl, _, rfl, iteDF (wne (b := "running") rfl (by decide +kernel)) ?_⟩
      refine ⟨_, rfl, _, _, _, _, rfl, rfl, A1.tup hs, atI_of (j := 0) rfl rfl, rfl, _, rfl, iteDF (wne (b := "running") rfl (by decide +kernel)) ?_⟩
      refine ⟨_, rfl, _, _, _, _, rfl, rfl, A1.tup hs, atI_of (j := 0) rfl rfl, rfl, _, rfl, iteDF (wne (b := "running") rfl (by decide +kernel)) ?_⟩
      refine ⟨_, rfl, _, _, _, _, rfl, rfl, A1.tup hs, atI_of (j := 0) rfl rfl, inTup (by decide) ⟨rfl, rfl⟩ fun H2 s2 => ⟨_, rfl, inT (b := "running") rfl (by decide +kernel) ?_⟩⟩
      have A2 := A1.sm s2
      exact ⟨_, rfl, _, rfl, _, _, _, _, rfl, rfl, A2.tup hs, atI_of (j := 3) rfl rfl, _, _, _, _, rfl, rfl, A2.slL, atI_of rfl (rm_get ok.2.1), _, rfl, _, _, _, _, rfl, rfl, A2.seatL ok.2.1, atI_of rfl (rm_get he), _, rfl, _, _, _, _, rfl, rfl, A2.tup hs, atI_of (j := 0) rfl rfl, rfl, _, rfl, iteDF (wne (b := "running") rfl (by decide +kernel)) ⟨two_sz, fun p' hp' => kQ p' _ ((s1.trans s2).free hp') ((s1.trans s2).trans (same_new hp')) upd_same⟩⟩
    | trim => exact ok.2.elim
    | stop n => exact ok.2.elim
    | next => exact ok.2.elim
    | «begin» many g => exact ok.2.elim
theorem cal__law_read {P : Program} {w : World} {K : PySem.W.Frag} {mg : Str → Option Value} {base : Heap} (T : Txt w K mg) : Cal P w K mg base 1 "_law_read" ["_law_world", "_law_step_here", "_law_e"] (sp__law_read K) := ⟨_, _, ok__law_read T, T.g__law_read, T.f__law_read.kp, T.f__law_read.bindsN (ps := ["_law_world", "_law_step_here", "_law_e"]) fun _ _ _ _ _ _ us hl => match us, hl with | [_, _, _], _ => rfl⟩
def sp__law_reads_laid (K : PySem.W.Frag) : Sp := fun vs H Q _ => ∃ (H0 : Hp) (ad : Rw → Addr) (W : WS) (sa : Addr) (st : Stp), vs = [.ref (ad .wd), .ref sa] ∧ WA H0 ad W H ∧ H0 sa = some (.tup st.vals) ∧ W.ok st ∧
  ∀ (b : Bool) H', Same H H' → (b = true ↔ W.laid st) → Q (.bl b) H'
theorem sc__law_reads_laid : FnScope ["_law_world", "_law_step_here", "_law_e"] ["_law_world", "_law_step_here"] (defScope s__law_reads_laid) := ⟨rfl, rfl, rfl, by decide +kernel, rfl, by decide +kernel, by decide +kernel⟩
theorem ok__law_reads_laid {P : Program} {w : World} {K : PySem.W.Frag} {mg : Str → Option Value} {base : Heap} (T : Txt w K mg) : FnOk P w K mg base CX0 2 (ad__law_reads_laid K) (fdOf K (ad__law_reads_laid K)) ["_law_world", "_law_step_here"] (sp__law_reads_laid K) := by
  have C__law_active := cal__law_active (P := P) (base := base) T
  have C__law_read := cal__law_read (P := P) (base := base) T
  refine T.f__law_reads_laid.ok sc__law_reads_laid (fun vs H Q E h => ?_) (fun cdv A outer s H vs Q E hr h => ?_)
  · obtain ⟨_, _, _, _, _, rfl, _⟩ := h
    rfl
  · have hu := hu_of hr
    have nd := sc__law_reads_laid.nd
    refine ⟨_, PSs.nox ((pss_cons (ps_for PassesOwn.never rfl (pi_list (pe_cl C__law_active (hr.mono (by decide)) (pa_cons (pv 0) (pa_cons (pe_ix ix_tup (pv 1) (pe_un un_neg pe_int) (fun _ _ => rfl)) pa_nil)))) (pg_name (i := 2) nd rfl (Or.inl rfl))
      (pss_one (ps_if (pt_cmpR op_in_seq pe_non (pe_cl C__law_read (hr.mono (by decide)) (pa_cons (pv 0) (pa_cons (pv 1) (pa_cons (pv 2) pa_nil)))) (by rfl))
      (pss_one (ps_ret pe_bl))
      pss_nil)))
      (pss_one (ps_ret pe_bl)))), ?_⟩
    obtain ⟨H0, ad, W, sa, st, rfl, A, hs, ok, kQ⟩ := h
    have eff := ok.eff
    refine ⟨_, rfl, _, rfl, _, rfl, _, _, _, _, rfl, rfl, A.tup hs, Stp.atM eff, H0, ad, W, st.mask, rfl, A, ok.1, fun l H1 hl s1 h1 => ?_⟩
    refine ⟨l, rfl, ⟨_, SqL.of h1⟩, for_list (K := K) (a := l) (xs := (W.actL st.mask).map fun (e : Nat) => V.int (e : Int)) (fun i σ H' => ∃ (v2 : Option V), σ = [some (.ref (ad .wd)), some (.ref sa), v2] ∧ Same H1 H' ∧ ∀ e ∈ (W.actL st.mask).take i, none ∉ W.rd e st)
      ⟨none, rfl, Same.refl _, fun e h => by simp at h⟩ (fun i σ H' _ ⟨_, _, s2, _⟩ => s2.seq (SqL.of h1)) ?_ ?_⟩
    · rintro i y σ H' hi ⟨v2, rfl, s2, hf⟩
      obtain ⟨e, he, rfl⟩ := il_get hi
      have hm : e ∈ W.actL st.mask := List.mem_of_getElem? he
      have A2 := A.sm (s1.trans s2)
      refine ⟨_, rfl, _, rfl, _, rfl, H0, ad, W, sa, st, e, rfl, A2, hs, ok, (mem_wact.mp hm).1, fun p H2 hp s3 h3 => ?_⟩
      refine ⟨p, _, rfl, .inl (SqL.of h3), rfl, flat_ov _, _, rfl, ?_⟩
      show if inV .non ((W.rd e st).map ov) = true then _ else _
      rw [inV_ov]
      refine iteD (fun c => ?_) (fun c => ?_)
      · exact kQ false _ ((s1.trans s2).trans s3) ⟨fun h => (by cases h), fun h => (h e hm c).elim⟩
      · refine ⟨_, rfl, s2.trans s3, fun x hx => ?_⟩
        rw [take_snoc he, List.mem_append, List.mem_singleton] at hx
        rcases hx with hx | rfl
        · exact hf x hx
        · exact c
    · rintro σ H' ⟨v2, rfl, s2, hf⟩
      refine kQ true H' (s1.trans s2) ⟨fun _ e he => hf e ?_, fun _ => rfl⟩
      rw [List.length_map, List.take_length]
      exact he
theorem cal__law_reads_laid {P : Program} {w : World} {K : PySem.W.Frag} {mg : Str → Option Value} {base : Heap} (T : Txt w K mg) : Cal P w K mg base 2 "_law_reads_laid" ["_law_world", "_law_step_here"] (sp__law_reads_laid K) := ⟨_, _, ok__law_reads_laid T, T.g__law_reads_laid, T.f__law_reads_laid.kp, T.f__law_reads_laid.bindsN (ps := ["_law_world", "_law_step_here"]) fun _ _ _ _ _ _ us hl => match us, hl with | [_, _], _ => rfl⟩
end Rb
end

section
set_option Elab.async false
set_option linter.all false
set_option maxRecDepth 100000
set_option maxHeartbeats 4000000
namespace Rb
open PySem PySem.Spec PyProof.Rows L2

def WS.got (W : WS) (e : Nat) : Stp → Int × Option Str
  | .number _ n _ => (n, none)
  | .here _ _ => ((e : Int), none)
  | .load _ row _ => (W.pr row e, none)
  | .spread _ row _ => (W.pr row 0, none)
  | .shift _ row b o _ => (if 0 ≤ (e : Int) + b ∧ (e : Int) + b < (W.ln row : Int) then W.pr row ((e : Int) + b).toNat else o, none)
  | .gather _ q row _ => if 0 ≤ W.num q e ∧ W.num q e < (W.ln row : Int) then (W.pr row (W.num q e).toNat, none) else (0, some ("outside" : Str))
  | .op _ s q r _ => match sgn s (W.num q e) (W.num r e) with
    | some n => (n, none)
    | none => (0, some ("nought" : Str))
  | .pick _ q r k _ => (if W.wm k e = true then W.num q e else W.num r e, none)
  | .copy _ q _ => (W.num q e, none)
  | .bring _ s _ => ((W.so s e).getD 0, none)
  | .save _ p _ => (W.num p e, none)
  | _ => (0, none)
def gv : Int × Option Str → V
  | (n, none) => .int n
  | (_, some s) => .str s
/-- the steps that get a number -/
def Stp.gets : Stp → Bool
  | .save _ _ _ => true
  | st => st.lays
theorem num_of {W : WS} {q e : Nat} (h : none ∉ [W.se q e]) : W.se q e = some (W.num q e) := by
  unfold WS.num
  cases hv : W.se q e with
  | none => rw [hv] at h; simp at h
  | some n => rfl
theorem WS.WF.numk {W : WS} (wf : W.WF) (q e : Nat) : KR (W.num q e) := by
  unfold WS.num
  cases hv : W.se q e with
  | none => exact ⟨by decide, by decide⟩
  | some n => exact wf.sek q e n hv
theorem sgn_some {s : Str} {l r : Int} (h : ¬ ((s = "/" ∨ s = "rest") ∧ r = 0)) : ∃ n, sgn s l r = some n := by
  unfold sgn
  split
  · exact ⟨_, rfl⟩
  split
  · exact ⟨_, rfl⟩
  split
  · exact ⟨_, rfl⟩
  split
  · rename_i h2
    rw [if_neg fun z => h ⟨h2, z⟩]
    split <;> exact ⟨_, rfl⟩
  repeat' (first | exact ⟨_, rfl⟩ | split)
theorem sgn_none {s : Str} {l r : Int} (h : (s = "/" ∨ s = "rest") ∧ r = 0) : sgn s l r = none := by
  obtain ⟨h1, h2⟩ := h
  unfold sgn
  rcases h1 with rfl | rfl
  · rw [if_neg (by decide +kernel), if_neg (by decide +kernel), if_neg (by decide +kernel), if_pos (.inl rfl), if_pos h2]
  · rw [if_neg (by decide +kernel), if_neg (by decide +kernel), if_neg (by decide +kernel), if_pos (.inr rfl), if_pos h2]
theorem inV_2 {s : Str} : inV (.str s) [.str "/", .str "rest"] = decide (s = "/" ∨ s = "rest") := by
  show ((("/" : Str) == s) || ((("rest" : Str) == s) || false)) = _
  by_cases h1 : s = "/"
  · subst h1
    decide +kernel
  · by_cases h2 : s = "rest"
    · subst h2
      decide +kernel
    · rw [beq_false_of_ne (fun z => h1 z.symm), beq_false_of_ne (fun z => h2 z.symm), decide_eq_false (fun z => z.elim h1 h2)]
      rfl
def sp__law_got (K : PySem.W.Frag) : Sp := fun vs H Q _ => ∃ (H0 : Hp) (ad : Rw → Addr) (W : WS) (sa : Addr) (st : Stp) (e : Nat), vs = [.ref (ad .wd), .ref sa, .int e, .ref (ad .pl)] ∧ WA H0 ad W H ∧ H0 sa = some (.tup st.vals) ∧ W.ok st ∧ e < W.many ∧ none ∉ W.rd e st ∧ st.gets = true ∧
  ∀ H', Same H H' → Q (gv (W.got e st)) H'
theorem sc__law_got : FnScope ["_law_world", "_law_step_here", "_law_e", "_law_parts_here", "_law_word", "_law_at", "_law_reads"] ["_law_world", "_law_step_here", "_law_e", "_law_parts_here"] (defScope s__law_got) := ⟨rfl, rfl, rfl, by decide +kernel, rfl, by decide +kernel, by decide +kernel⟩
theorem ok__law_got {P : Program} {w : World} {K : PySem.W.Frag} {mg : Str → Option Value} {base : Heap} (T : Txt w K mg) : FnOk P w K mg base CX0 3 (ad__law_got K) (fdOf K (ad__law_got K)) ["_law_world", "_law_step_here", "_law_e", "_law_parts_here"] (sp__law_got K) := by
  have C__law_signed := cal__law_signed (P := P) (base := base) T
  have C__law_read := cal__law_read (P := P) (base := base) T
  refine T.f__law_got.ok sc__law_got (fun vs H Q E h => ?_) (fun cdv A outer s H vs Q E hr h => ?_)
  · obtain ⟨_, _, _, _, _, _, rfl, _⟩ := h
    rfl
  · have hu := hu_of hr
    have nd := sc__law_got.nd
    refine ⟨_, PSs.nox ((pss_cons (ps_set (i := 4) nd rfl (Or.inl rfl) (pe_ix ix_tup (pv 1) pe_int (fun _ _ => rfl)))
      (pss_cons (ps_if (pt_cmpR op_eq (pv 4) pe_str (nomark _))
      (pss_one (ps_ret (pe_ix ix_tup (pv 1) pe_int (fun _ _ => rfl))))
      pss_nil)
      (pss_cons (ps_if (pt_cmpR op_eq (pv 4) pe_str (nomark _))
      (pss_one (ps_ret (pv 2)))
      pss_nil)
      (pss_cons (ps_if (pt_cmpR op_eq (pv 4) pe_str (nomark _))
      (pss_one (ps_ret (pe_ix ix_list (pe_ix ix_list (pv 3) (pe_ix ix_tup (pv 1) pe_int (fun _ _ => rfl)) (fun _ _ => rfl)) (pv 2) (fun _ _ => rfl))))
      pss_nil)
      (pss_cons (ps_if (pt_cmpR op_eq (pv 4) pe_str (nomark _))
      (pss_one (ps_ret (pe_ix ix_list (pe_ix ix_list (pv 3) (pe_ix ix_tup (pv 1) pe_int (fun _ _ => rfl)) (fun _ _ => rfl)) pe_int (fun _ _ => rfl))))
      pss_nil)
      (pss_cons (ps_if (pt_cmpR op_eq (pv 4) pe_str (nomark _))
      (pss_cons (ps_set (i := 5) nd rfl (Or.inl rfl) (pe_op op_add (pv 2) (pe_ix ix_tup (pv 1) pe_int (fun _ _ => rfl))))
      (pss_one (ps_ret (pe_ifExp (pt_chain op_le op_lt pe_int (pv 5) (pe_callB call_len_seq rfl T.b_len PySem.boot_len (pa_cons (pe_ix ix_list (pv 3) (pe_ix ix_tup (pv 1) pe_int (fun _ _ => rfl)) (fun _ _ => rfl)) pa_nil))) (pe_ix ix_list (pe_ix ix_list (pv 3) (pe_ix ix_tup (pv 1) pe_int (fun _ _ => rfl)) (fun _ _ => rfl)) (pv 5) (fun _ _ => rfl)) (pe_ix ix_tup (pv 1) pe_int (fun _ _ => rfl))))))
      pss_nil)
      (pss_cons (ps_set (i := 6) nd rfl (Or.inl rfl) (pe_cl C__law_read (hr.mono (by decide)) (pa_cons (pv 0) (pa_cons (pv 1) (pa_cons (pv 2) pa_nil)))))
      (pss_cons (ps_if (pt_cmpR op_eq (pv 4) pe_str (nomark _))
      (pss_one (ps_ret (pe_ifExp (pt_chain op_le op_lt pe_int (pe_ix ix_list (pv 6) pe_int (fun _ _ => rfl)) (pe_callB call_len_seq rfl T.b_len PySem.boot_len (pa_cons (pe_ix ix_list (pv 3) (pe_ix ix_tup (pv 1) pe_int (fun _ _ => rfl)) (fun _ _ => rfl)) pa_nil))) (pe_ix ix_list (pe_ix ix_list (pv 3) (pe_ix ix_tup (pv 1) pe_int (fun _ _ => rfl)) (fun _ _ => rfl)) (pe_ix ix_list (pv 6) pe_int (fun _ _ => rfl)) (fun _ _ => rfl)) pe_str)))
      pss_nil)
      (pss_cons (ps_if (PW.pt (pw_and (pt_cmpR op_eq (pv 4) pe_str (nomark _)) (pw_and (pt_cmpR op_in_seq (pe_ix ix_tup (pv 1) pe_int (fun _ _ => rfl)) (pe_tup (pa_cons pe_str (pa_cons pe_str pa_nil))) (by rfl)) (pw_and1 (pt_cmpR op_eq (pe_ix ix_list (pv 6) pe_int (fun _ _ => rfl)) pe_int (nomark _))))))
      (pss_one (ps_ret pe_str))
      pss_nil)
      (pss_cons (ps_if (pt_cmpR op_eq (pv 4) pe_str (nomark _))
      (pss_one (ps_ret (pe_cl C__law_signed (hr.mono (by decide)) (pa_cons (pe_ix ix_tup (pv 1) pe_int (fun _ _ => rfl)) (pa_cons (pe_ix ix_list (pv 6) pe_int (fun _ _ => rfl)) (pa_cons (pe_ix ix_list (pv 6) pe_int (fun _ _ => rfl)) pa_nil))))))
      pss_nil)
      (pss_one (ps_ret (pe_ix ix_list (pv 6) pe_int (fun _ _ => rfl))))))))))))))), ?_⟩
    obtain ⟨H0, ad, W, sa, st, e, rfl, A, hs, ok, he, hn, hg, kQ⟩ := h
    have wf := A.wf
    have n0 : ∀ r, r < 7 → 0 < W.ln r := wf.lnr.1
    have l0 := wf.lnr.2.1
    have l1 := wf.lnr.2.2.1
    cases st with
    | number p n md =>
      refine ⟨_, rfl, _, _, _, _, rfl, rfl, A.tup hs, atI_of (j := 0) rfl rfl, ?_⟩
      refine ⟨_, rfl, rfl, _, rfl, iteDT rfl ?_⟩
      exact ⟨_, rfl, _, _, _, _, rfl, rfl, A.tup hs, atI_of (j := 2) rfl rfl, kQ H (Same.refl _)⟩
    | here p md =>
      refine ⟨_, rfl, _, _, _, _, rfl, rfl, A.tup hs, atI_of (j := 0) rfl rfl, ?_⟩
      refine ⟨_, rfl, rfl, _, rfl, iteDF (wne (b := "here") rfl (by decide +kernel)) ?_⟩
      refine ⟨_, rfl, rfl, _, rfl, iteDT rfl ?_⟩
      exact ⟨_, rfl, kQ H (Same.refl _)⟩
    | load p row md =>
      refine ⟨_, rfl, _, _, _, _, rfl, rfl, A.tup hs, atI_of (j := 0) rfl rfl, ?_⟩
      refine ⟨_, rfl, rfl, _, rfl, iteDF (wne (b := "load") rfl (by decide +kernel)) ?_⟩
      refine ⟨_, rfl, rfl, _, rfl, iteDF (wne (b := "load") rfl (by decide +kernel)) ?_⟩
      refine ⟨_, rfl, rfl, _, rfl, iteDT rfl ?_⟩
      have hr7 : row < 7 := by have := ok.2.2; omega
      have hl : e < W.ln row := by
        have h2 : row < 2 := ok.2.2
        have h3 : row = 0 ∨ row = 1 := by omega
        rcases h3 with rfl | rfl
        · rw [l0]; exact he
        · rw [l1]; exact he
      exact ⟨_, rfl, _, rfl, _, _, _, _, rfl, rfl, A.tup hs, atI_of (j := 2) rfl rfl, _, _, _, _, rfl, rfl, A.plL, atI_of rfl (rm_get hr7), _, rfl, _, _, _, _, rfl, rfl, A.partL hr7,  atI_of rfl (rm_get hl), kQ H (Same.refl _)⟩
    | spread p row md =>
      refine ⟨_, rfl, _, _, _, _, rfl, rfl, A.tup hs, atI_of (j := 0) rfl rfl, ?_⟩
      refine ⟨_, rfl, rfl, _, rfl, iteDF (wne (b := "spread") rfl (by decide +kernel)) ?_⟩
      refine ⟨_, rfl, rfl, _, rfl, iteDF (wne (b := "spread") rfl (by decide +kernel)) ?_⟩
      refine ⟨_, rfl, rfl, _, rfl, iteDF (wne (b := "spread") rfl (by decide +kernel)) ?_⟩
      refine ⟨_, rfl, rfl, _, rfl, iteDT rfl ?_⟩
      have hr7 : row < 7 := by have := ok.2.2; omega
      exact ⟨_, rfl, _, rfl, _, _, _, _, rfl, rfl, A.tup hs, atI_of (j := 2) rfl rfl, _, _, _, _, rfl, rfl, A.plL, atI_of rfl (rm_get hr7), _, _, _, _, rfl, rfl, A.partL hr7,  atI_of (j := 0) rfl (rm_get (n0 row hr7)), kQ H (Same.refl _)⟩
    | shift p row b o md =>
      refine ⟨_, rfl, _, _, _, _, rfl, rfl, A.tup hs, atI_of (j := 0) rfl rfl, ?_⟩
      refine ⟨_, rfl, rfl, _, rfl, iteDF (wne (b := "shift") rfl (by decide +kernel)) ?_⟩
      refine ⟨_, rfl, rfl, _, rfl, iteDF (wne (b := "shift") rfl (by decide +kernel)) ?_⟩
      refine ⟨_, rfl, rfl, _, rfl, iteDF (wne (b := "shift") rfl (by decide +kernel)) ?_⟩
      refine ⟨_, rfl, rfl, _, rfl, iteDF (wne (b := "shift") rfl (by decide +kernel)) ?_⟩
      refine ⟨_, rfl, rfl, _, rfl, iteDT rfl ?_⟩
      have hr7 : row < 7 := by have := ok.2.2.1; omega
      refine ⟨_, rfl, _, rfl, _, _, _, _, rfl, rfl, A.tup hs, atI_of (j := 3) rfl rfl, _, _, rfl, rfl, ?_⟩
      have kQ1 : Q (.int (if 0 ≤ (e : Int) + b ∧ (e : Int) + b < (W.ln row : Int) then W.pr row ((e : Int) + b).toNat else o)) H := kQ H (Same.refl _)
      refine ⟨_, rfl, _, _, rfl, rfl, _, rfl, iteD (fun c1 => ?_) (fun c1 => ?_)⟩
      · refine ⟨_, rfl, _, rfl, _, _, _, _, rfl, rfl, A.tup hs, atI_of (j := 2) rfl rfl, _, _, _, _, rfl, rfl, A.plL, atI_of rfl (rm_get hr7), _, _, rfl, .inl (A.partL hr7), ?_⟩
        rw [List.length_map, List.length_range]
        refine ⟨_, _, rfl, rfl, _, rfl, iteD (fun c2 => ?_) (fun c2 => ?_)⟩
        · have h1 : (0 : Int) ≤ (e : Int) + b := c1
          have h2 : (e : Int) + b < (W.ln row : Int) := c2
          rw [if_pos ⟨h1, h2⟩] at kQ1
          exact ⟨_, rfl, _, rfl, _, _, _, _, rfl, rfl, A.tup hs, atI_of (j := 2) rfl rfl, _, _, _, _, rfl, rfl, A.plL, atI_of rfl (rm_get hr7), _, rfl, _, _, _, _, rfl, rfl, A.partL hr7,  atI_of (j := ((e : Int) + b).toNat) (by rw [Int.toNat_of_nonneg h1]) (rm_get (by omega)), kQ1⟩
        · rw [if_neg (fun z => c2 z.2)] at kQ1
          exact ⟨_, rfl, _, _, _, _, rfl, rfl, A.tup hs, atI_of (j := 4) rfl rfl, kQ1⟩
      · rw [if_neg (fun z => c1 z.1)] at kQ1
        exact ⟨_, rfl, _, rfl, _, _, _, _, rfl, rfl, A.tup hs, atI_of (j := 4) rfl rfl, kQ1⟩
    | gather p q row md =>
      refine ⟨_, rfl, _, _, _, _, rfl, rfl, A.tup hs, atI_of (j := 0) rfl rfl, ?_⟩
      refine ⟨_, rfl, rfl, _, rfl, iteDF (wne (b := "gather") rfl (by decide +kernel)) ?_⟩
      refine ⟨_, rfl, rfl, _, rfl, iteDF (wne (b := "gather") rfl (by decide +kernel)) ?_⟩
      refine ⟨_, rfl, rfl, _, rfl, iteDF (wne (b := "gather") rfl (by decide +kernel)) ?_⟩
      refine ⟨_, rfl, rfl, _, rfl, iteDF (wne (b := "gather") rfl (by decide +kernel)) ?_⟩
      refine ⟨_, rfl, rfl, _, rfl, iteDF (wne (b := "gather") rfl (by decide +kernel)) ?_⟩
      refine ⟨_, rfl, _, rfl, _, rfl, H0, ad, W, sa, _, e, rfl, A, hs, ok, he, fun pr H1 hp1 s1 h1 => ?_⟩
      have A1 := A.sm s1
      have e1 : W.se q e = some (W.num q e) := num_of hn
      have h2 : H1 pr = some (.lst [.int (W.num q e)]) := by rw [h1]; show some (HO.lst [ov (W.se q e)]) = _; rw [e1]; rfl
      refine ⟨_, rfl, rfl, _, rfl, iteDT rfl ?_⟩
      have hr7 : row < 7 := by have := ok.2.2.2; omega
      have kQ1 : Q (gv (if 0 ≤ W.num q e ∧ W.num q e < (W.ln row : Int) then (W.pr row (W.num q e).toNat, none) else (0, some ("outside" : Str)))) H1 := kQ H1 s1
      refine ⟨_, rfl, _, _, _, _, rfl, rfl, SqL.of h2, atI_of (j := 0) rfl rfl, _, _, rfl, rfl, _, rfl, iteD (fun c1 => ?_) (fun c1 => ?_)⟩
      · refine ⟨_, rfl, _, rfl, _, _, _, _, rfl, rfl, A1.tup hs, atI_of (j := 3) rfl rfl, _, _, _, _, rfl, rfl, A1.plL, atI_of rfl (rm_get hr7), _, _, rfl, .inl (A1.partL hr7), ?_⟩
        rw [List.length_map, List.length_range]
        refine ⟨_, _, rfl, rfl, _, rfl, iteD (fun c2 => ?_) (fun c2 => ?_)⟩
        · have h1 : (0 : Int) ≤ W.num q e := c1
          have h3 : W.num q e < (W.ln row : Int) := c2
          rw [if_pos ⟨h1, h3⟩] at kQ1
          exact ⟨_, rfl, _, rfl, _, _, _, _, rfl, rfl, A1.tup hs, atI_of (j := 3) rfl rfl, _, _, _, _, rfl, rfl, A1.plL, atI_of rfl (rm_get hr7), _, rfl, _, _, _, _, rfl, rfl, SqL.of h2, atI_of (j := 0) rfl rfl, _, _, _, _, rfl, rfl, A1.partL hr7,  atI_of (j := (W.num q e).toNat) (by rw [Int.toNat_of_nonneg h1]) (rm_get (by omega)), kQ1⟩
        · rw [if_neg (fun z => c2 z.2)] at kQ1
          exact kQ1
      · rw [if_neg (fun z => c1 z.1)] at kQ1
        exact ⟨_, rfl, kQ1⟩
    | op p s q r md =>
      refine ⟨_, rfl, _, _, _, _, rfl, rfl, A.tup hs, atI_of (j := 0) rfl rfl, ?_⟩
      refine ⟨_, rfl, rfl, _, rfl, iteDF (wne (b := "op") rfl (by decide +kernel)) ?_⟩
      refine ⟨_, rfl, rfl, _, rfl, iteDF (wne (b := "op") rfl (by decide +kernel)) ?_⟩
      refine ⟨_, rfl, rfl, _, rfl, iteDF (wne (b := "op") rfl (by decide +kernel)) ?_⟩
      refine ⟨_, rfl, rfl, _, rfl, iteDF (wne (b := "op") rfl (by decide +kernel)) ?_⟩
      refine ⟨_, rfl, rfl, _, rfl, iteDF (wne (b := "op") rfl (by decide +kernel)) ?_⟩
      refine ⟨_, rfl, _, rfl, _, rfl, H0, ad, W, sa, _, e, rfl, A, hs, ok, he, fun pr H1 hp1 s1 h1 => ?_⟩
      have A1 := A.sm s1
      have e1 : W.se q e = some (W.num q e) := num_of fun z => hn (by rcases List.mem_singleton.mp z with z; show none ∈ [W.se q e, W.se r e]; rw [← z]; simp)
      have e2 : W.se r e = some (W.num r e) := num_of fun z => hn (by rcases List.mem_singleton.mp z with z; show none ∈ [W.se q e, W.se r e]; rw [← z]; simp)
      have h2 : H1 pr = some (.lst [.int (W.num q e), .int (W.num r e)]) := by rw [h1]; show some (HO.lst [ov (W.se q e), ov (W.se r e)]) = _; rw [e1, e2]; rfl
      refine ⟨_, rfl, rfl, _, rfl, iteDF (wne (b := "op") rfl (by decide +kernel)) ?_⟩
      refine ⟨_, rfl, rfl, _, rfl, iteDT rfl ?_⟩
      have kQ1 : Q (gv (match sgn s (W.num q e) (W.num r e) with
          | some n => (n, none)
          | none => (0, some ("nought" : Str)))) H1 := kQ H1 s1
      have yes : (s = "/" ∨ s = "rest") ∧ W.num r e = 0 → ∀ H2, Same H1 H2 → Q (.str "nought") H2 := fun hc H2 s2 => by
        have k := kQ H2 (s1.trans s2)
        have e3 : W.got e (.op p s q r md) = (0, some ("nought" : Str)) := by
          show (match sgn s (W.num q e) (W.num r e) with
            | some n => (n, none)
            | none => (0, some ("nought" : Str))) = _
          rw [sgn_none hc]
        rw [e3] at k
        exact k
      have no : ¬ ((s = "/" ∨ s = "rest") ∧ W.num r e = 0) → ∃ n, sgn s (W.num q e) (W.num r e) = some n ∧ ∀ H2, Same H1 H2 → Q (.int n) H2 := fun hc => by
        obtain ⟨n, en⟩ := sgn_some (l := W.num q e) hc
        refine ⟨n, en, fun H2 s2 => ?_⟩
        have k := kQ H2 (s1.trans s2)
        have e3 : W.got e (.op p s q r md) = (n, none) := by
          show (match sgn s (W.num q e) (W.num r e) with
            | some n => (n, none)
            | none => (0, some ("nought" : Str))) = _
          rw [en]
        rw [e3] at k
        exact k
      refine ⟨_, rfl, _, _, _, _, rfl, rfl, A1.tup hs, atI_of (j := 2) rfl rfl, inTup (by decide) ⟨rfl, rfl⟩ fun H2 s2 => ⟨_, rfl, ?_⟩⟩
      have A2 := A1.sm s2
      have h3 := s2 _ _ h2
      show if inV (.str s) [.str "/", .str "rest"] = true then _ else _
      rw [inV_2]
      refine iteD (fun c1 => ?_) (fun c1 => ?_)
      · refine ⟨_, rfl, _, _, _, _, rfl, rfl, SqL.of h3, atI_of (j := 1) rfl rfl, rfl, _, rfl, iteI (fun c2 => ?_) (fun c2 => ?_)⟩
        · exact yes ⟨c1, c2⟩ H2 s2
        · obtain ⟨n, en, k⟩ := no fun z => c2 z.2
          exact ⟨_, rfl, rfl, _, rfl, iteDT rfl ⟨_, rfl, _, _, _, _, rfl, rfl, A2.tup hs, atI_of (j := 2) rfl rfl, _, rfl, _, _, _, _, rfl, rfl, SqL.of h3, atI_of (j := 0) rfl rfl, _, rfl, _, _, _, _, rfl, rfl, SqL.of h3, atI_of (j := 1) rfl rfl, s, W.num q e, W.num r e, n, rfl, wf.numk q e, wf.numk r e, en, k H2 s2⟩⟩
      · obtain ⟨n, en, k⟩ := no fun z => c1 z.1
        exact ⟨_, rfl, rfl, _, rfl, iteDT rfl ⟨_, rfl, _, _, _, _, rfl, rfl, A2.tup hs, atI_of (j := 2) rfl rfl, _, rfl, _, _, _, _, rfl, rfl, SqL.of h3, atI_of (j := 0) rfl rfl, _, rfl, _, _, _, _, rfl, rfl, SqL.of h3, atI_of (j := 1) rfl rfl, s, W.num q e, W.num r e, n, rfl, wf.numk q e, wf.numk r e, en, k H2 s2⟩⟩
    | pick p q r k md =>
      refine ⟨_, rfl, _, _, _, _, rfl, rfl, A.tup hs, atI_of (j := 0) rfl rfl, ?_⟩
      refine ⟨_, rfl, rfl, _, rfl, iteDF (wne (b := "pick") rfl (by decide +kernel)) ?_⟩
      refine ⟨_, rfl, rfl, _, rfl, iteDF (wne (b := "pick") rfl (by decide +kernel)) ?_⟩
      refine ⟨_, rfl, rfl, _, rfl, iteDF (wne (b := "pick") rfl (by decide +kernel)) ?_⟩
      refine ⟨_, rfl, rfl, _, rfl, iteDF (wne (b := "pick") rfl (by decide +kernel)) ?_⟩
      refine ⟨_, rfl, rfl, _, rfl, iteDF (wne (b := "pick") rfl (by decide +kernel)) ?_⟩
      refine ⟨_, rfl, _, rfl, _, rfl, H0, ad, W, sa, _, e, rfl, A, hs, ok, he, fun pr H1 hp1 s1 h1 => ?_⟩
      have A1 := A.sm s1
      have h2 : H1 pr = some (.lst [.int (if W.wm k e = true then W.num q e else W.num r e)]) := by
        rw [h1]
        show some (HO.lst [ov (if W.wm k e = true then W.se q e else W.se r e)]) = _
        have hn2 : none ∉ [if W.wm k e = true then W.se q e else W.se r e] := hn
        cases hb : W.wm k e with
        | true => rw [hb] at hn2; rw [if_pos rfl, if_pos rfl, num_of (q := q) hn2]; rfl
        | false => rw [hb] at hn2; rw [if_neg (by decide), if_neg (by decide), num_of (q := r) hn2]; rfl
      refine ⟨_, rfl, rfl, _, rfl, iteDF (wne (b := "pick") rfl (by decide +kernel)) ?_⟩
      refine ⟨_, rfl, rfl, _, rfl, iteDF (wne (b := "pick") rfl (by decide +kernel)) ?_⟩
      refine ⟨_, rfl, rfl, _, rfl, iteDF (wne (b := "pick") rfl (by decide +kernel)) ?_⟩
      exact ⟨_, rfl, _, _, _, _, rfl, rfl, SqL.of h2, atI_of (j := 0) rfl rfl, kQ H1 s1⟩
    | copy p q md =>
      refine ⟨_, rfl, _, _, _, _, rfl, rfl, A.tup hs, atI_of (j := 0) rfl rfl, ?_⟩
      refine ⟨_, rfl, rfl, _, rfl, iteDF (wne (b := "copy") rfl (by decide +kernel)) ?_⟩
      refine ⟨_, rfl, rfl, _, rfl, iteDF (wne (b := "copy") rfl (by decide +kernel)) ?_⟩
      refine ⟨_, rfl, rfl, _, rfl, iteDF (wne (b := "copy") rfl (by decide +kernel)) ?_⟩
      refine ⟨_, rfl, rfl, _, rfl, iteDF (wne (b := "copy") rfl (by decide +kernel)) ?_⟩
      refine ⟨_, rfl, rfl, _, rfl, iteDF (wne (b := "copy") rfl (by decide +kernel)) ?_⟩
      refine ⟨_, rfl, _, rfl, _, rfl, H0, ad, W, sa, _, e, rfl, A, hs, ok, he, fun pr H1 hp1 s1 h1 => ?_⟩
      have A1 := A.sm s1
      have e1 : W.se q e = some (W.num q e) := num_of hn
      have h2 : H1 pr = some (.lst [.int (W.num q e)]) := by rw [h1]; show some (HO.lst [ov (W.se q e)]) = _; rw [e1]; rfl
      refine ⟨_, rfl, rfl, _, rfl, iteDF (wne (b := "copy") rfl (by decide +kernel)) ?_⟩
      refine ⟨_, rfl, rfl, _, rfl, iteDF (wne (b := "copy") rfl (by decide +kernel)) ?_⟩
      refine ⟨_, rfl, rfl, _, rfl, iteDF (wne (b := "copy") rfl (by decide +kernel)) ?_⟩
      exact ⟨_, rfl, _, _, _, _, rfl, rfl, SqL.of h2, atI_of (j := 0) rfl rfl, kQ H1 s1⟩
    | bring p s md =>
      refine ⟨_, rfl, _, _, _, _, rfl, rfl, A.tup hs, atI_of (j := 0) rfl rfl, ?_⟩
      refine ⟨_, rfl, rfl, _, rfl, iteDF (wne (b := "bring") rfl (by decide +kernel)) ?_⟩
      refine ⟨_, rfl, rfl, _, rfl, iteDF (wne (b := "bring") rfl (by decide +kernel)) ?_⟩
      refine ⟨_, rfl, rfl, _, rfl, iteDF (wne (b := "bring") rfl (by decide +kernel)) ?_⟩
      refine ⟨_, rfl, rfl, _, rfl, iteDF (wne (b := "bring") rfl (by decide +kernel)) ?_⟩
      refine ⟨_, rfl, rfl, _, rfl, iteDF (wne (b := "bring") rfl (by decide +kernel)) ?_⟩
      refine ⟨_, rfl, _, rfl, _, rfl, H0, ad, W, sa, _, e, rfl, A, hs, ok, he, fun pr H1 hp1 s1 h1 => ?_⟩
      have A1 := A.sm s1
      have e1 : W.so s e = some ((W.so s e).getD 0) := by
        have hn2 : none ∉ [W.so s e] := hn
        cases hv : W.so s e with
        | none => rw [hv] at hn2; simp at hn2
        | some n => rfl
      have h2 : H1 pr = some (.lst [.int ((W.so s e).getD 0)]) := by rw [h1]; show some (HO.lst [ov (W.so s e)]) = _; rw [e1]; rfl
      refine ⟨_, rfl, rfl, _, rfl, iteDF (wne (b := "bring") rfl (by decide +kernel)) ?_⟩
      refine ⟨_, rfl, rfl, _, rfl, iteDF (wne (b := "bring") rfl (by decide +kernel)) ?_⟩
      refine ⟨_, rfl, rfl, _, rfl, iteDF (wne (b := "bring") rfl (by decide +kernel)) ?_⟩
      exact ⟨_, rfl, _, _, _, _, rfl, rfl, SqL.of h2, atI_of (j := 0) rfl rfl, kQ H1 s1⟩
    | choose k p md =>
      cases hg
    | other k p md =>
      cases hg
    | save s p md =>
      refine ⟨_, rfl, _, _, _, _, rfl, rfl, A.tup hs, atI_of (j := 0) rfl rfl, ?_⟩
      refine ⟨_, rfl, rfl, _, rfl, iteDF (wne (b := "save") rfl (by decide +kernel)) ?_⟩
      refine ⟨_, rfl, rfl, _, rfl, iteDF (wne (b := "save") rfl (by decide +kernel)) ?_⟩
      refine ⟨_, rfl, rfl, _, rfl, iteDF (wne (b := "save") rfl (by decide +kernel)) ?_⟩
      refine ⟨_, rfl, rfl, _, rfl, iteDF (wne (b := "save") rfl (by decide +kernel)) ?_⟩
      refine ⟨_, rfl, rfl, _, rfl, iteDF (wne (b := "save") rfl (by decide +kernel)) ?_⟩
      refine ⟨_, rfl, _, rfl, _, rfl, H0, ad, W, sa, _, e, rfl, A, hs, ok, he, fun pr H1 hp1 s1 h1 => ?_⟩
      have A1 := A.sm s1
      have e1 : W.se p e = some (W.num p e) := num_of hn
      have h2 : H1 pr = some (.lst [.int (W.num p e)]) := by rw [h1]; show some (HO.lst [ov (W.se p e)]) = _; rw [e1]; rfl
      refine ⟨_, rfl, rfl, _, rfl, iteDF (wne (b := "save") rfl (by decide +kernel)) ?_⟩
      refine ⟨_, rfl, rfl, _, rfl, iteDF (wne (b := "save") rfl (by decide +kernel)) ?_⟩
      refine ⟨_, rfl, rfl, _, rfl, iteDF (wne (b := "save") rfl (by decide +kernel)) ?_⟩
      exact ⟨_, rfl, _, _, _, _, rfl, rfl, SqL.of h2, atI_of (j := 0) rfl rfl, kQ H1 s1⟩
    | reach p n md =>
      cases hg
    | store row p md =>
      cases hg
    | put row q p md =>
      cases hg
    | fold row f p md =>
      cases hg
    | running row f p md =>
      cases hg
    | trim => cases hg
    | stop n => cases hg
    | next => cases hg
    | «begin» many g => cases hg
theorem cal__law_got {P : Program} {w : World} {K : PySem.W.Frag} {mg : Str → Option Value} {base : Heap} (T : Txt w K mg) : Cal P w K mg base 3 "_law_got" ["_law_world", "_law_step_here", "_law_e", "_law_parts_here"] (sp__law_got K) := ⟨_, _, ok__law_got T, T.g__law_got, T.f__law_got.kp, T.f__law_got.bindsN (ps := ["_law_world", "_law_step_here", "_law_e", "_law_parts_here"]) fun _ _ _ _ _ _ us hl => match us, hl with | [_, _, _, _], _ => rfl⟩
end Rb
end

section
set_option Elab.async false
set_option linter.all false
set_option maxRecDepth 100000
set_option maxHeartbeats 4000000
namespace Rb
open PySem PySem.Spec PyProof.Rows L2

/-- the fault a step gives an active element -/
def WS.flf (W : WS) (e : Nat) : Stp → Option Str
  | .reach p n _ => if 0 ≤ W.num p e ∧ W.num p e < n then none else some ("outside" : Str)
  | st => (W.got e st).2
def WS.flt (W : WS) (st : Stp) : Prop := ∃ e ∈ W.actL st.mask, (W.flf e st).isSome = true
theorem flf_none {W : WS} {e : Nat} {st : Stp} (h : st.word ≠ "gather" ∧ st.word ≠ "op" ∧ st.word ≠ "reach") : W.flf e st = none := by
  cases st with
  | gather p q row md => exact (h.1 rfl).elim
  | op p s q r md => exact (h.2.1 rfl).elim
  | reach p n md => exact (h.2.2 rfl).elim
  | _ => rfl
theorem flf_got {W : WS} {e : Nat} {st : Stp} (h : st.word ≠ "reach") : W.flf e st = (W.got e st).2 := by
  cases st with
  | reach p n md => exact (h rfl).elim
  | _ => rfl
theorem inV_ab {s a b : Str} : inV (.str s) [.str a, .str b] = decide (s = a ∨ s = b) := by
  show ((a == s) || ((b == s) || false)) = _
  by_cases h1 : s = a
  · subst h1
    rw [beq_self_eq_true, decide_eq_true (.inl rfl)]
    rfl
  · by_cases h2 : s = b
    · subst h2
      rw [beq_self_eq_true, decide_eq_true (.inr rfl), Bool.true_or, Bool.or_true]
    · rw [beq_false_of_ne (fun z => h1 z.symm), beq_false_of_ne (fun z => h2 z.symm), decide_eq_false (fun z => z.elim h1 h2)]
      rfl
theorem seatV {W : WS} {p e : Nat} {n : Int} (he : e < W.many) (h : W.se p e = some n) : ((List.range W.many).map fun e => ov (W.se p e))[e]? = some (.int n) := by
  rw [rm_get he, h]
  rfl
theorem gv_ty {K : PySem.W.Frag} {H : Hp} (x : Int × Option Str) : ∃ t, TyX K H (gv x) t ∧ PySem.W.kitOne K t (.type "str") = some x.2.isSome := by
  obtain ⟨n, f⟩ := x
  cases f with
  | none => exact ⟨_, .base (.int n), kit_ty (b := "str") (show kitB "int" "str" = some false by decide +kernel)⟩
  | some s => exact ⟨_, .base (.str s), kit_ty (b := "str") (show kitB "str" "str" = some true by decide +kernel)⟩
def sp__law_faults (K : PySem.W.Frag) : Sp := fun vs H Q _ => ∃ (H0 : Hp) (ad : Rw → Addr) (W : WS) (sa : Addr) (st : Stp) (pv : V), vs = [.ref (ad .wd), .ref sa, pv] ∧ WA H0 ad W H ∧ H0 sa = some (.tup st.vals) ∧ W.ok st ∧ W.laid st ∧ (st.word ≠ "reach" → pv = .ref (ad .pl)) ∧
  ∀ (b : Bool) H', Same H H' → (b = true ↔ W.flt st) → Q (.bl b) H'
theorem sc__law_faults : FnScope ["_law_world", "_law_step_here", "_law_parts_here", "_law_e"] ["_law_world", "_law_step_here", "_law_parts_here"] (defScope s__law_faults) := ⟨rfl, rfl, rfl, by decide +kernel, rfl, by decide +kernel, by decide +kernel⟩
theorem ok__law_faults {P : Program} {w : World} {K : PySem.W.Frag} {mg : Str → Option Value} {base : Heap} (T : Txt w K mg) : FnOk P w K mg base CX0 4 (ad__law_faults K) (fdOf K (ad__law_faults K)) ["_law_world", "_law_step_here", "_law_parts_here"] (sp__law_faults K) := by
  have C__law_active := cal__law_active (P := P) (base := base) T
  have C__law_got := cal__law_got (P := P) (base := base) T
  refine T.f__law_faults.ok sc__law_faults (fun vs H Q E h => ?_) (fun cdv A outer s H vs Q E hr h => ?_)
  · obtain ⟨_, _, _, _, _, _, rfl, _⟩ := h
    rfl
  · have hu := hu_of hr
    have nd := sc__law_faults.nd
    refine ⟨_, PSs.nox ((pss_cons (ps_for PassesOwn.never rfl (pi_list (pe_cl C__law_active (hr.mono (by decide)) (pa_cons (pv 0) (pa_cons (pe_ix ix_tup (pv 1) (pe_un un_neg pe_int) (fun _ _ => rfl)) pa_nil)))) (pg_name (i := 3) nd rfl (Or.inl rfl))
      (pss_cons (ps_if (PW.pt (pw_and (pt_cmpR op_eq (pe_ix ix_tup (pv 1) pe_int (fun _ _ => rfl)) pe_str (nomark _)) (pw_and1 (pt_not (pt_chain op_le op_lt pe_int (pe_ix ix_list (pe_ix ix_list (pe_dget hu (pv 0) pe_str (fun _ _ => rfl)) (pe_ix ix_tup (pv 1) pe_int (fun _ _ => rfl)) (fun _ _ => rfl)) (pv 3) (fun _ _ => rfl)) (pe_ix ix_tup (pv 1) pe_int (fun _ _ => rfl)))))))
      (pss_one (ps_ret pe_bl))
      pss_nil)
      (pss_one (ps_if (PW.pt (pw_and (pt_cmpR op_in_seq (pe_ix ix_tup (pv 1) pe_int (fun _ _ => rfl)) (pe_tup (pa_cons pe_str (pa_cons pe_str pa_nil))) (by rfl)) (pw_and1 (pt_val (pe_callB call_isi rfl T.b_isinstance (by decide +kernel) (pa_cons (pe_cl C__law_got (hr.mono (by decide)) (pa_cons (pv 0) (pa_cons (pv 1) (pa_cons (pv 3) (pa_cons (pv 2) pa_nil))))) (pa_cons (pe_bltn (v := .ty "str") rfl T.b_str (by decide +kernel) rfl) pa_nil)))))))
      (pss_one (ps_ret pe_bl))
      pss_nil))))
      (pss_one (ps_ret pe_bl)))), ?_⟩
    obtain ⟨H0, ad, W, sa, st, pv, rfl, A, hs, ok, hlaid, hpv, kQ⟩ := h
    have eff := ok.eff
    refine ⟨_, rfl, _, rfl, _, rfl, _, _, _, _, rfl, rfl, A.tup hs, Stp.atM eff, H0, ad, W, st.mask, rfl, A, ok.1, fun l H1 hl s1 h1 => ?_⟩
    refine ⟨l, rfl, ⟨_, SqL.of h1⟩, for_list (K := K) (a := l) (xs := (W.actL st.mask).map fun (e : Nat) => V.int (e : Int)) (fun i σ H' => ∃ (v2 : Option V), σ = [some (.ref (ad .wd)), some (.ref sa), some pv, v2] ∧ Same H1 H' ∧ ∀ e ∈ (W.actL st.mask).take i, W.flf e st = none)
      ⟨none, rfl, Same.refl _, fun e h => by simp at h⟩ (fun i σ H' _ ⟨_, _, s2, _⟩ => s2.seq (SqL.of h1)) ?_ ?_⟩
    · rintro i y σ H' hi ⟨v2, rfl, s2, hf⟩
      obtain ⟨e, he, rfl⟩ := il_get hi
      have hm : e ∈ W.actL st.mask := List.mem_of_getElem? he
      have hem := (mem_wact.mp hm).1
      have A2 := A.sm (s1.trans s2)
      have hn := hlaid e hm
      have more : W.flf e st = none → ∀ x ∈ (W.actL st.mask).take (i + 1), W.flf x st = none := fun h x hx => by
        rw [take_snoc he, List.mem_append, List.mem_singleton] at hx
        rcases hx with hx | rfl
        · exact hf x hx
        · exact h
      have out : (W.flf e st).isSome = true → ∀ H2, Same H' H2 → Q (.bl true) H2 := fun h H2 s3 => kQ true H2 ((s1.trans s2).trans s3) ⟨fun _ => ⟨e, hm, h⟩, fun _ => rfl⟩
      by_cases hr : st.word = "reach"
      · obtain ⟨p, n, md, rfl⟩ : ∃ p n md, st = .reach p n md := by
          cases st <;> first | exact ⟨_, _, _, rfl⟩ | exact absurd hr (by simp only [Stp.word]; decide +kernel)
        have e1 : W.se p e = some (W.num p e) := num_of hn
        have e3 : W.flf e (.reach p n md) = if 0 ≤ W.num p e ∧ W.num p e < n then none else some ("outside" : Str) := rfl
        refine ⟨_, rfl, _, _, _, _, rfl, rfl, A2.tup hs, atI_of (j := 0) rfl rfl, rfl, _, rfl, iteDT rfl ?_⟩
        refine ⟨_, rfl, _, _, rfl, A2.d1, _, rfl, _, _, _, _, rfl, rfl, A2.tup hs, atI_of (j := 1) rfl rfl, _, _, _, _, rfl, rfl, A2.slL, atI_of rfl (rm_get ok.2), _, rfl, _, _, _, _, rfl, rfl, A2.seatL ok.2, atI_of rfl (seatV hem e1), _, _, rfl, rfl, _, rfl, iteD (fun c1 => ?_) (fun c1 => ?_)⟩
        · refine ⟨_, rfl, _, _, _, _, rfl, rfl, A2.tup hs, atI_of (j := 2) rfl rfl, _, _, rfl, rfl, _, rfl, iteN (fun c2 => ?_) (fun c2 => ?_)⟩
          · rw [e3, if_neg (fun z => c2 z.2)] at out
            exact out rfl _ (Same.refl _)
          · rw [e3, if_pos ⟨c1, c2⟩] at more
            refine ⟨_, rfl, _, _, _, _, rfl, rfl, A2.tup hs, atI_of (j := 0) rfl rfl, inTup (by decide) ⟨rfl, rfl⟩ fun H2 s3 => ⟨_, rfl, inF (b := "reach") rfl (by decide +kernel) ?_⟩⟩
            exact ⟨_, rfl, s2.trans s3, more rfl⟩
        · rw [e3, if_neg (fun z => c1 z.1)] at out
          exact ⟨_, rfl, out rfl _ (Same.refl _)⟩
      · obtain rfl := hpv hr
        refine ⟨_, rfl, _, _, _, _, rfl, rfl, A2.tup hs, st.at0, rfl, _, rfl, iteDF (fun z => hr (V.str.inj z)) ?_⟩
        rw [flf_got hr] at more out
        refine ⟨_, rfl, _, _, _, _, rfl, rfl, A2.tup hs, st.at0, inTup (by decide) ⟨rfl, rfl⟩ fun H2 s3 => ⟨_, rfl, ?_⟩⟩
        show if inV (.str st.word) [.str "gather", .str "op"] = true then _ else _
        rw [inV_ab]
        refine iteD (fun c1 => ?_) (fun c1 => ?_)
        · have hgets : st.gets = true := by
            cases st <;> first | rfl | exact absurd c1 (by simp only [Stp.word]; decide +kernel)
          refine ⟨_, rfl, _, rfl, _, rfl, _, rfl, H0, ad, W, sa, st, e, rfl, A2.sm s3, hs, ok, hem, hn, hgets, fun H3 s4 => ?_⟩
          obtain ⟨t, ty, hk⟩ := gv_ty (K := K) (H := H3) (W.got e st)
          refine ⟨_, _, t, _, _, rfl, .ty _, ty, hk, _, rfl, ?_⟩
          cases hv : (W.got e st).2 with
          | some x =>
            rw [hv] at out
            exact out rfl _ (s3.trans s4)
          | none =>
            rw [hv] at more
            exact ⟨_, rfl, (s2.trans s3).trans s4, more rfl⟩
        · have h2 : W.flf e st = none := flf_none ⟨fun z => c1 (.inl z), fun z => c1 (.inr z), hr⟩
          rw [flf_got hr] at h2
          exact ⟨_, rfl, s2.trans s3, more h2⟩
    · rintro σ H' ⟨v2, rfl, s2, hf⟩
      refine kQ false H' (s1.trans s2) ⟨fun h => (by cases h), fun ⟨e, he, h⟩ => ?_⟩
      rw [hf e (by rw [List.length_map, List.take_length]; exact he)] at h
      cases h
theorem cal__law_faults {P : Program} {w : World} {K : PySem.W.Frag} {mg : Str → Option Value} {base : Heap} (T : Txt w K mg) : Cal P w K mg base 4 "_law_faults" ["_law_world", "_law_step_here", "_law_parts_here"] (sp__law_faults K) := ⟨_, _, ok__law_faults T, T.g__law_faults, T.f__law_faults.kp, T.f__law_faults.bindsN (ps := ["_law_world", "_law_step_here", "_law_parts_here"]) fun _ _ _ _ _ _ us hl => match us, hl with | [_, _, _], _ => rfl⟩
end Rb
end

section
set_option Elab.async false
set_option linter.all false
set_option maxRecDepth 100000
set_option maxHeartbeats 4000000
namespace Rb
open PySem PySem.Spec PyProof.Rows L2

/-- the world behind a step played on it -/
def WS.choseF (W : WS) (oth : Bool) (p md : Nat) (e : Nat) : Bool := W.act md e && (decide (W.num p e = 0) == oth)
def WS.layF (W : WS) (md : Nat) (f : Nat → Option Int) (e : Nat) : Option Int := if e ∈ W.actL md then f e else none
def WS.gotO (W : WS) (st : Stp) (e : Nat) : Option Int := match W.got e st with
  | (n, none) => some n
  | (_, some _) => none
def WS.faF (W : WS) (st : Stp) (e : Nat) : Option Str := if e ∈ W.actL st.mask ∧ (W.flf e st).isSome = true then W.flf e st else W.fa e
def WS.played (W : WS) (st : Stp) : WS := match st with
  | .choose k p md => { W with ks := addK W.ks k, wm := fun q e => if q = k then W.choseF false p md e else W.wm q e }
  | .other k p md => { W with ks := addK W.ks k, wm := fun q e => if q = k then W.choseF true p md e else W.wm q e }
  | .reach p n md => { W with fa := W.faF (.reach p n md) }
  | .save s p md => { W with so := fun q e => if q = s then W.layF md (fun e => some (W.num p e)) e else W.so q e }
  | st => { W with se := fun q e => if q = st.seat then W.layF st.mask (W.gotO st) e else W.se q e, fa := W.faF st }
/-- the steps that the law plays -/
def Stp.pl : Stp → Bool
  | .store _ _ _ => false
  | .put _ _ _ _ => false
  | .fold _ _ _ _ => false
  | .running _ _ _ _ => false
  | st => st.eff
theorem rep_flat {v : V} {n : Nat} : (List.replicate n [v]).flatten = (List.range n).map fun _ => v := by
  rw [← rep_range]
  induction n with
  | zero => rfl
  | succ n ih =>
    rw [List.replicate_succ, List.flatten_cons, ih]
    rfl
theorem WA.wr {H0 H : Hp} {ad : Rw → Addr} {W : WS} (A : WA H0 ad W H) {D : Addr} {o : HO} (hoff : ∀ r, W.rok r = true → D ≠ ad r) (hD : H0 D = none) : WA H0 ad W (upd H D o) :=
  ⟨A.wf, A.inj, A.off, fun r h => by rw [upd_ne (hoff r h).symm]; exact A.at_ r h, same_upd A.same hD⟩
theorem WA.new_off {H0 H : Hp} {ad : Rw → Addr} {W : WS} (A : WA H0 ad W H) {D : Addr} (hD : H D = none) : ∀ r, W.rok r = true → D ≠ ad r := fun r h z => by
  rw [z, A.at_ r h] at hD
  cases hD
theorem inV_il {x : Nat} : ∀ (l : List Nat), inV (.int (x : Int)) (l.map fun (e : Nat) => V.int (e : Int)) = decide (x ∈ l)
  | [] => rfl
  | y :: r => by
    have h := inV_il (x := x) r
    show (((y : Int) == (x : Int)) || inV (.int (x : Int)) (r.map fun (e : Nat) => V.int (e : Int))) = _
    rw [h]
    by_cases e : x = y
    · subst e
      simp
    · have h2 : ((y : Int) == (x : Int)) = false := beq_false_of_ne (by omega)
      rw [h2]
      simp [e]
theorem flat_il : ∀ (l : List Nat), (l.map fun (e : Nat) => V.int (e : Int)).all flatV = true
  | [] => rfl
  | y :: r => flat_il r
theorem wgot_kr {W : WS} (wf : W.WF) {e : Nat} {st : Stp} (ok : W.ok st) (he : e < W.many) {n : Int} (h : W.gotO st e = some n) : KR n := by
  have hm := wf.m1
  have hz : KR 0 := ⟨by decide, by decide⟩
  have key : ∀ x : Int × Option Str, (x.2 = none → KR x.1) → (match x with
      | (n, none) => some n
      | (_, some _) => none) = some n → KR n := fun x hx h => by
    obtain ⟨a, f⟩ := x
    cases f with
    | none =>
      cases h
      exact hx rfl
    | some s => cases h
  refine key (W.got e st) (fun hf => ?_) h
  have hso : ∀ s, KR ((W.so s e).getD 0) := fun s => by
    cases hv : W.so s e with
    | none => exact hz
    | some n => exact wf.sok s e n hv
  cases st with
  | number p n md => exact ok.2.2
  | here p md => exact ⟨by show -9223372036854775808 ≤ (e : Int); omega, by show (e : Int) < 9223372036854775808; omega⟩
  | load p row md => exact wf.prk _ _
  | spread p row md => exact wf.prk _ _
  | shift p row b o md =>
    show KR (if _ then _ else _)
    split
    · exact wf.prk _ _
    · exact ok.2.2.2.1
  | gather p q row md =>
    show KR (Prod.fst (if _ then _ else _))
    split
    · exact wf.prk _ _
    · exact hz
  | op p s q r md =>
    show KR (Prod.fst (match sgn s (W.num q e) (W.num r e) with
      | some n => (n, none)
      | none => (0, some ("nought" : Str))))
    cases hv : sgn s (W.num q e) (W.num r e) with
    | none => exact hz
    | some n => exact sgn_kr (wf.numk q e) (wf.numk r e) hv
  | pick p q r k md =>
    show KR (if _ then _ else _)
    split
    · exact wf.numk _ _
    · exact wf.numk _ _
  | copy p q md => exact wf.numk _ _
  | bring p s md => exact hso s
  | save s p md => exact wf.numk _ _
  | _ => exact hz
/-- the world while a step is played: the first of the active elements are through -/
def WS.mid (W : WS) (st : Stp) (l : List Nat) : WS := { W with fa := fun e => if e ∈ l ∧ (W.flf e st).isSome = true then W.flf e st else W.fa e }
theorem mid_ok {W : WS} {st : Stp} {l : List Nat} (h : W.ok st) : (W.mid st l).ok st := h
theorem mid_rd {W : WS} {st : Stp} {l : List Nat} {e : Nat} : (W.mid st l).rd e st = W.rd e st := by cases st <;> rfl
theorem mid_got {W : WS} {st : Stp} {l : List Nat} {e : Nat} : (W.mid st l).got e st = W.got e st := by cases st <;> rfl
theorem mid_nil {W : WS} {st : Stp} : W.mid st [] = W := by
  show ({ W with fa := _ } : WS) = W
  have e : (fun e => if e ∈ ([] : List Nat) ∧ (W.flf e st).isSome = true then W.flf e st else W.fa e) = W.fa := by
    funext e
    rw [if_neg (fun z => by simp at z)]
  rw [e]
theorem mid_keep {W : WS} {st : Stp} {l : List Nat} {e : Nat} (h : W.flf e st = none) : W.mid st (l ++ [e]) = W.mid st l := by
  unfold WS.mid
  congr 1
  funext x
  by_cases c : x = e
  · subst c
    rw [h, if_neg (fun z => by simp at z), if_neg (fun z => by simp at z)]
  · simp [c]
theorem mid_put {W : WS} {st : Stp} {l : List Nat} {e : Nat} {s : Str} (h : W.flf e st = some s) : { W.mid st l with fa := upd1 (W.mid st l).fa e (some s) } = W.mid st (l ++ [e]) := by
  have e1 : upd1 (W.mid st l).fa e (some s) = (W.mid st (l ++ [e])).fa := by
    funext x
    show upd1 (fun e => if e ∈ l ∧ (W.flf e st).isSome = true then W.flf e st else W.fa e) e (some s) x = if x ∈ l ++ [e] ∧ (W.flf x st).isSome = true then W.flf x st else W.fa x
    by_cases c : x = e
    · subst c
      rw [upd1_same, h, if_pos ⟨by simp, rfl⟩]
    · rw [upd1_ne c]
      simp [c]
  show ({ W with fa := upd1 (W.mid st l).fa e (some s) } : WS) = { W with fa := (W.mid st (l ++ [e])).fa }
  rw [e1]
def sp__law_played (K : PySem.W.Frag) : Sp := fun vs H Q _ => ∃ (H0 : Hp) (ad : Rw → Addr) (W : WS) (sa : Addr) (st : Stp) (pv : V), vs = [.ref (ad .wd), .ref sa, pv] ∧ WA H0 ad W H ∧ H0 sa = some (.tup st.vals) ∧ W.ok st ∧ W.laid st ∧ st.pl = true ∧ (st.word ≠ "reach" → pv = .ref (ad .pl)) ∧
  ∀ (ad' : Rw → Addr) H', ad' .wd = ad .wd → ad' .pl = ad .pl → WA H0 ad' (W.played st) H' → Q (.bl true) H'
theorem sc__law_played : FnScope ["_law_world", "_law_step_here", "_law_parts_here", "_law_many", "_law_active_here", "_law_truths", "_law_e", "_law_numbers", "_law_number_here"] ["_law_world", "_law_step_here", "_law_parts_here"] (defScope s__law_played) := ⟨rfl, rfl, rfl, by decide +kernel, rfl, by decide +kernel, by decide +kernel⟩
theorem ok__law_played {P : Program} {w : World} {K : PySem.W.Frag} {mg : Str → Option Value} {base : Heap} (T : Txt w K mg) : FnOk P w K mg base CX0 4 (ad__law_played K) (fdOf K (ad__law_played K)) ["_law_world", "_law_step_here", "_law_parts_here"] (sp__law_played K) := by
  have C__law_got := cal__law_got (P := P) (base := base) T
  have C__law_active := cal__law_active (P := P) (base := base) T
  refine T.f__law_played.ok sc__law_played (fun vs H Q E h => ?_) (fun cdv A outer s H vs Q E hr h => ?_)
  · obtain ⟨_, _, _, _, _, _, rfl, _⟩ := h
    rfl
  · have hu := hu_of hr
    have nd := sc__law_played.nd
    refine ⟨_, PSs.nox ((pss_cons (ps_set (i := 3) nd rfl (Or.inl rfl) (pe_callB call_len_seq rfl T.b_len PySem.boot_len (pa_cons (pe_dget hu (pv 0) pe_str (fun _ _ => rfl)) pa_nil)))
      (pss_cons (ps_set (i := 4) nd rfl (Or.inr rfl) (pe_cl C__law_active (hr.mono (by decide)) (pa_cons (pv 0) (pa_cons (pe_ix ix_tup (pv 1) (pe_un un_neg pe_int) (fun _ _ => rfl)) pa_nil))))
      (pss_cons (ps_if (PW.pt (pw_or (pt_cmpR op_eq (pe_ix ix_tup (pv 1) pe_int (fun _ _ => rfl)) pe_str (nomark _)) (pw_or1 (pt_cmpR op_eq (pe_ix ix_tup (pv 1) pe_int (fun _ _ => rfl)) pe_str (nomark _)))))
      (pss_cons (ps_setLc (i := 5) (own := [("_law_e", 6)]) (g := gName 6) rfl nd rfl rfl (sw_true rfl rfl rfl (by decide +kernel)) (pi_range1 rfl T.b_range (pa_cons (pv 3) pa_nil)) (blkOk_by (N := ["_law_world", "_law_step_here", "_law_parts_here", "_law_many", "_law_active_here", "_law_truths", "_law_e", "_law_numbers", "_law_number_here"]) (sc := defScope s__law_played) (by decide +kernel)) (fun _ _ _ _ _ => pg_name (i := 6) nd rfl (Or.inl rfl)) (fun _ _ _ _ _ => pts_nil) (fun _ _ _ _ _ => (pe_and (pe_cmpR (inK K) (pv 6) (pv 4) (by rfl)) (pe_one (pe_cmpR op_eq (pe_cmpR op_eq (pe_ix (ixLK K) (pe_ix (ixLK K) (pe_dget hu (pv 0) pe_str (fun _ _ => rfl)) (pe_ix (ixTK K) (pv 1) pe_int (fun _ _ => rfl)) (fun _ _ => rfl)) (pv 6) (fun _ _ => rfl)) pe_int (nomark _)) (pe_cmpR op_eq (pe_ix (ixTK K) (pv 1) pe_int (fun _ _ => rfl)) pe_str (nomark _)) (nomark _))))))
      (pss_cons (ps_dput hu (pe_dget hu (pv 0) pe_str (fun _ _ => rfl)) (pe_ix ix_tup (pv 1) pe_int (fun _ _ => rfl)) (pv 5) rfl)
      (pss_one (ps_ret pe_bl))))
      pss_nil)
      (pss_cons (ps_set (i := 7) nd rfl (Or.inl rfl) (pe_op op_rep (pe_lst (pa_cons pe_non pa_nil)) (pv 3)))
      (pss_cons (ps_for PassesOwn.never rfl (pi_list (pv 4)) (pg_name (i := 6) nd rfl (Or.inl rfl))
      (pss_one (ps_if (pt_cmpR op_eq (pe_ix ix_tup (pv 1) pe_int (fun _ _ => rfl)) pe_str (nomark _))
      (pss_one (ps_if (pt_not (pt_chain op_le op_lt pe_int (pe_ix ix_list (pe_ix ix_list (pe_dget hu (pv 0) pe_str (fun _ _ => rfl)) (pe_ix ix_tup (pv 1) pe_int (fun _ _ => rfl)) (fun _ _ => rfl)) (pv 6) (fun _ _ => rfl)) (pe_ix ix_tup (pv 1) pe_int (fun _ _ => rfl))))
      (pss_one (ps_asg pe_str (pg_sub (pe_dget hu (pv 0) pe_str (fun _ _ => rfl)) (pv 6) set_list)))
      pss_nil))
      (pss_cons (ps_set (i := 8) nd rfl (Or.inl rfl) (pe_cl C__law_got (hr.mono (by decide)) (pa_cons (pv 0) (pa_cons (pv 1) (pa_cons (pv 6) (pa_cons (pv 2) pa_nil))))))
      (pss_one (ps_if (pt_val (pe_callB call_isi rfl T.b_isinstance (by decide +kernel) (pa_cons (pv 8) (pa_cons (pe_bltn (v := .ty "str") rfl T.b_str (by decide +kernel) rfl) pa_nil))))
      (pss_one (ps_asg (pv 8) (pg_sub (pe_dget hu (pv 0) pe_str (fun _ _ => rfl)) (pv 6) set_list)))
      (pss_one (ps_asg (pv 8) (pg_sub (pv 7) (pv 6) set_list)))))))))
      (pss_cons (ps_if (pt_cmpR op_eq (pe_ix ix_tup (pv 1) pe_int (fun _ _ => rfl)) pe_str (nomark _))
      (pss_one (ps_asg (pv 7) (pg_sub (pe_dget hu (pv 0) pe_str (fun _ _ => rfl)) (pe_ix ix_tup (pv 1) pe_int (fun _ _ => rfl)) set_list)))
      (pss_one (ps_if (pt_cmpR op_ne (pe_ix ix_tup (pv 1) pe_int (fun _ _ => rfl)) pe_str (nomark _))
      (pss_one (ps_asg (pv 7) (pg_sub (pe_dget hu (pv 0) pe_str (fun _ _ => rfl)) (pe_ix ix_tup (pv 1) pe_int (fun _ _ => rfl)) set_list)))
      pss_nil)))
      (pss_one (ps_ret pe_bl))))))))), ?_⟩
    obtain ⟨H0, ad, W, sa, st, pv, rfl, A, hs, ok, hlaid, hp, hpv, kQ⟩ := h
    have eff := ok.eff
    have hm4 := A.wf.m1
    refine ⟨_, rfl, _, _, rfl, A.d2, _, _, rfl, .inl A.flL, ?_⟩
    rw [List.length_map, List.length_range]
    refine ⟨_, rfl, _, rfl, _, rfl, _, _, _, _, rfl, rfl, A.tup hs, Stp.atM eff, H0, ad, W, st.mask, rfl, A, ok.1, fun l H1 hl s1 h1 => ?_⟩
    have A1 := A.sm s1
    have hD0 : ∀ {D : Addr}, H1 D = none → H0 D = none := fun h => A.same.free (s1.free h)
    by_cases hc : st.word = "choose" ∨ st.word = "other"
    · obtain ⟨oth, k, p, md, e1, e2, e3, e4, e5, e6, e7, e8⟩ : ∃ (oth : Bool) (k p md : Nat), atI st.vals 1 = some (.int (k : Int)) ∧ atI st.vals 2 = some (.int (p : Int)) ∧ st.mask = md ∧ W.played st = { W with ks := addK W.ks k, wm := fun q e => if q = k then W.choseF oth p md e else W.wm q e } ∧
          (∀ e ∈ W.actL md, none ∉ [W.se p e]) ∧ k < 16 ∧ p < W.nse ∧ decide (V.str st.word = V.str "other") = oth := by
        cases st with
        | choose k p md => exact ⟨false, k, p, md, rfl, rfl, rfl, rfl, hlaid, ok.2.2, ok.2.1, decide_eq_false (wne (b := "choose") rfl (by decide +kernel))⟩
        | other k p md => exact ⟨true, k, p, md, rfl, rfl, rfl, rfl, hlaid, ok.2.2, ok.2.1, decide_eq_true rfl⟩
        | _ => exact absurd hc (by simp only [Stp.word]; decide +kernel)
      subst e3
      rw [e4] at kQ
      have body : ∀ {R : Prop}, (∀ D H3, H1 D = none → Same H1 H3 → H3 D = some (.lst ((List.range W.many).map fun e => V.bl (W.choseF oth p st.mask e))) → ∃ H4, DPut H3 (ad .md) (.int (k : Int)) (.ref D) H4 ∧ Q (.bl true) H4) := fun D H3 hD s3 h3 => by
        obtain ⟨H4, d1, A4⟩ := (A1.sm s3).newMask e6 (hD0 hD) (A1.new_off hD) h3
        exact ⟨H4, d1, kQ (putAd ad (.mask k) D) H4 rfl rfl A4⟩
      have tst : st.word = "choose" ∨ (st.word ≠ "choose" ∧ st.word = "other") := by
        rcases hc with h | h
        · exact .inl h
        · exact .inr ⟨by rw [h]; decide +kernel, h⟩
      refine ⟨_, rfl, _, _, _, _, rfl, rfl, A1.tup hs, st.at0, rfl, _, rfl, iteS (fun c => ?_) (fun c => ⟨_, rfl, _, _, _, _, rfl, rfl, A1.tup hs, st.at0, rfl, _, rfl, iteDT (congrArg V.str (hc.resolve_left c)) ?_⟩)⟩
      all_goals
        refine ⟨_, rfl, _, rfl, by omega, by omega, fun D hD => ?_⟩
        rw [Int.toNat_natCast]
        refine comp_range hD (fun e => V.bl (W.choseF oth p st.mask e)) (by omega) (fun i H' hi s2 Q' q => ?_) (fun H2 s2 h2 => ?_)
        · have e0 : (0 : Int) + (i : Int) = (i : Int) := Int.zero_add _
          rw [e0]
          have A2 := A1.sm s2
          refine ⟨_, rfl, _, rfl, l, _, rfl, .inl (SqL.of (s2 _ _ h1)), rfl, flat_il _, _, rfl, ?_⟩
          show if inV (.int (i : Int)) ((W.actL st.mask).map fun (e : Nat) => V.int (e : Int)) = true then _ else _
          rw [inV_il]
          refine iteD (fun c => ?_) (fun c => ?_)
          · have e9 : W.se p i = some (W.num p i) := num_of (e5 i c)
            have ea : W.act st.mask i = true := (mem_wact.mp c).2
            refine ⟨_, rfl, _, _, rfl, A2.d1, _, rfl, _, _, _, _, rfl, rfl, A2.tup hs, e2, _, _, _, _, rfl, rfl, A2.slL, atI_of rfl (rm_get e7), _, rfl, _, _, _, _, rfl, rfl, A2.seatL e7, atI_of rfl (seatV hi e9), rfl, _, rfl, _, _, _, _, rfl, rfl, A2.tup hs, st.at0, rfl, rfl, ?_⟩
            have eb : W.choseF oth p st.mask i = decide (V.bl (decide (V.int (W.num p i) = V.int 0)) = V.bl (decide (V.str st.word = V.str "other"))) := by
              unfold WS.choseF
              rw [ea, e8, Bool.true_and]
              by_cases z : W.num p i = 0
              · rw [decide_eq_true z, decide_eq_true (congrArg V.int z)]
                cases oth <;> rfl
              · rw [decide_eq_false z, decide_eq_false (fun h => z (V.int.inj h))]
                cases oth <;> rfl
            rw [eb] at q
            exact q _ (Same.refl _)
          · have eb : W.choseF oth p st.mask i = false := by
              unfold WS.choseF
              cases ea : W.act st.mask i with
              | true => exact (c (mem_wact.mpr ⟨hi, ea⟩)).elim
              | false => rfl
            rw [eb] at q
            exact q _ (Same.refl _)
        · have A2 := A1.sm s2
          obtain ⟨H4, d1, k4⟩ := body (R := True) D H2 hD s2 h2
          exact ⟨_, rfl, _, rfl, _, _, rfl, A2.d3, _, rfl, _, _, _, _, rfl, rfl, A2.tup hs, e1, _, H4, rfl, d1, k4⟩
    · refine ⟨_, rfl, _, _, _, _, rfl, rfl, A1.tup hs, st.at0, rfl, _, rfl, iteDF (fun z => hc (.inl (V.str.inj z))) ?_⟩
      refine ⟨_, rfl, _, _, _, _, rfl, rfl, A1.tup hs, st.at0, rfl, _, rfl, iteDF (fun z => hc (.inr (V.str.inj z))) ?_⟩
      refine ⟨one_sz, fun l1 hl1 => ?_⟩
      refine ⟨_, rfl, l1, _, _, rfl, rfl, upd_same, by omega, by omega, by rw [Int.toNat_natCast]; exact sz_le (by show 1 * W.many ≤ 1000000; omega), fun D hD => ?_⟩
      rw [Int.toNat_natCast, rep_flat]
      have hD1 : H1 D = none := (same_new hl1).free hD
      have hDr := A1.new_off hD1
      have hDl : D ≠ l := fun z => by rw [z, h1] at hD1; cases hD1
      have s2 : Same H1 (upd (upd H1 l1 (.lst [.non])) D (.lst ((List.range W.many).map fun _ => V.non))) := same_upd (same_new hl1) hD1
      have hD2 : upd (upd H1 l1 (.lst [.non])) D (.lst ((List.range W.many).map fun _ => V.non)) D = some (.lst ((List.range W.many).map fun _ => V.non)) := upd_same
      generalize upd (upd H1 l1 (.lst [.non])) D (.lst ((List.range W.many).map fun _ => V.non)) = H2 at s2 hD2 ⊢
      have A2 := A1.sm s2
      have hl2 := s2 _ _ h1
      have hlr := A.new_off hl
      generalize hL : W.actL st.mask = L at *
      have hLm : ∀ e ∈ L, e < W.many := fun e he => by rw [← hL] at he; exact (mem_wact.mp he).1
      refine ⟨_, rfl, l, rfl, ⟨_, SqL.of hl2⟩, for_list (K := K) (a := l) (xs := L.map fun (e : Nat) => V.int (e : Int)) (fun i σ H' => ∃ (v6 v8 : Option V), σ = [some (.ref (ad .wd)), some (.ref sa), some pv, some (.int (W.many : Int)), some (.ref l), none, v6, some (.ref D), v8] ∧ WA H0 ad (W.mid st (L.take i)) H' ∧ H' l = some (.lst (L.map fun (e : Nat) => V.int (e : Int))) ∧
          ∃ f : Nat → Option Int, H' D = some (.lst ((List.range W.many).map fun e => ov (f e))) ∧ (st.word ≠ "reach" → ∀ e, f e = if e ∈ L.take i then W.gotO st e else none))
        ⟨none, none, rfl, by rw [List.take_zero, mid_nil]; exact A2, hl2, fun _ => none, hD2, fun _ e => by rw [if_neg (fun z => by simp at z)]⟩ (fun i σ H' _ ⟨_, _, _, _, h3, _⟩ => SqL.of h3) ?_ ?_⟩
      · rintro i y σ H' hi ⟨v6, v8, rfl, A3, hl3, f, hD3, hf⟩
        obtain ⟨e, he, rfl⟩ := il_get hi
        have hm : e ∈ L := List.mem_of_getElem? he
        have hem := hLm e hm
        have hn : none ∉ W.rd e st := hlaid e (by rw [hL]; exact hm)
        have hg4 := take_snoc he
        have flt : ∀ (s : Str), W.flf e st = some s → WA H0 ad (W.mid st (L.take (i + 1))) (upd H' (ad .fl) (.lst (((List.range W.many).map fun x => fv ((W.mid st (L.take i)).fa x)).set e (.str s)))) := fun s h => by
          rw [hg4, ← mid_put h]
          exact A3.setFault s hem
        have kee : W.flf e st = none → W.mid st (L.take (i + 1)) = W.mid st (L.take i) := fun h => by rw [hg4, mid_keep h]
        have hfl : H' (ad .fl) = some (.lst ((List.range W.many).map fun x => fv ((W.mid st (L.take i)).fa x))) := A3.at_ .fl rfl
        have hfll : l ≠ ad .fl := hlr .fl rfl
        have hfD : D ≠ ad .fl := hDr .fl rfl
        by_cases hr : st.word = "reach"
        · refine ⟨_, rfl, _, _, _, _, rfl, rfl, A3.tup hs, st.at0, rfl, _, rfl, iteDT (congrArg V.str hr) ?_⟩
          obtain ⟨p, n, md, rfl⟩ : ∃ p n md, st = .reach p n md := by
            cases st <;> first | exact ⟨_, _, _, rfl⟩ | exact absurd hr (by simp only [Stp.word]; decide +kernel)
          have e1 : W.se p e = some (W.num p e) := num_of hn
          have e3 : W.flf e (.reach p n md) = if 0 ≤ W.num p e ∧ W.num p e < n then none else some ("outside" : Str) := rfl
          refine ⟨_, rfl, _, _, rfl, A3.d1, _, rfl, _, _, _, _, rfl, rfl, A3.tup hs, atI_of (j := 1) rfl rfl, _, _, _, _, rfl, rfl, A3.slL, atI_of rfl (rm_get ok.2), _, rfl, _, _, _, _, rfl, rfl, A3.seatL ok.2, atI_of rfl (seatV (W := W) hem e1), _, _, rfl, rfl, _, rfl, iteD (fun c1 => ?_) (fun c1 => ?_)⟩
          · refine ⟨_, rfl, _, _, _, _, rfl, rfl, A3.tup hs, atI_of (j := 2) rfl rfl, _, _, rfl, rfl, _, rfl, iteN (fun c2 => ?_) (fun c2 => ?_)⟩
            · rw [if_neg (fun z => c2 z.2)] at e3
              refine ⟨_, rfl, _, _, rfl, A3.d2, _, rfl, _, _, _, _, rfl, rfl, hfl, ixN_of rfl (by rw [List.length_map, List.length_range]; exact hem), _, _, rfl, flt _ e3, by rw [upd_ne hfll]; exact hl3, f, by rw [upd_ne hfD]; exact hD3, fun z => (z rfl).elim⟩
            · rw [if_pos ⟨c1, c2⟩] at e3
              exact ⟨_, _, rfl, by rw [kee e3]; exact A3, hl3, f, hD3, fun z => (z rfl).elim⟩
          · rw [if_neg (fun z => c1 z.1)] at e3
            refine ⟨_, rfl, _, rfl, _, _, rfl, A3.d2, _, rfl, _, _, _, _, rfl, rfl, hfl, ixN_of rfl (by rw [List.length_map, List.length_range]; exact hem), _, _, rfl, flt _ e3, by rw [upd_ne hfll]; exact hl3, f, by rw [upd_ne hfD]; exact hD3, fun z => (z rfl).elim⟩
        · refine ⟨_, rfl, _, _, _, _, rfl, rfl, A3.tup hs, st.at0, rfl, _, rfl, iteDF (fun z => hr (V.str.inj z)) ?_⟩
          obtain rfl := hpv hr
          have hgets : st.gets = true := by
            cases st <;> first | rfl | (cases hp; done) | exact (hr rfl).elim | exact (hc (.inl rfl)).elim | exact (hc (.inr rfl)).elim
          refine ⟨_, rfl, _, rfl, _, rfl, _, rfl, H0, ad, W.mid st (L.take i), sa, st, e, rfl, A3, hs, mid_ok ok, hem, by rw [mid_rd]; exact hn, hgets, fun H3 s4 => ?_⟩
          rw [mid_got]
          have A4 := A3.sm s4
          have hl4 := s4 _ _ hl3
          have hD4 := s4 _ _ hD3
          have hfl4 := s4 _ _ hfl
          obtain ⟨t, ty, hk⟩ := gv_ty (K := K) (H := H3) (W.got e st)
          refine ⟨_, rfl, _, _, t, _, _, rfl, .ty _, ty, hk, _, rfl, ?_⟩
          have hff := flf_got (W := W) (e := e) hr
          have hgo : W.gotO st e = match W.got e st with
            | (n, none) => some n
            | (_, some _) => none := rfl
          cases hv : W.got e st with
          | mk n fo =>
            rw [hv] at hff hgo
            cases fo with
            | some x =>
              have hff' : W.flf e st = some x := hff
              have hgo' : W.gotO st e = none := hgo
              refine ⟨_, rfl, _, rfl, _, _, rfl, A4.d2, _, rfl, _, _, _, _, rfl, rfl, hfl4, ixN_of rfl (by rw [List.length_map, List.length_range]; exact hem), _, _, rfl, ?_, by rw [upd_ne hfll]; exact hl4, f, by rw [upd_ne hfD]; exact hD4, fun z y => ?_⟩
              · rw [hg4, ← mid_put hff']
                exact A4.setFault x hem
              · rw [hf z y, hg4]
                by_cases c : y = e
                · subst c
                  rw [hgo']
                  simp
                · simp [c]
            | none =>
              have hff' : W.flf e st = none := hff
              have hgo' : W.gotO st e = some n := hgo
              refine ⟨_, rfl, _, rfl, _, rfl, _, _, _, _, rfl, rfl, hD4, ixN_of rfl (by rw [List.length_map, List.length_range]; exact hem), _, _, rfl, ?_, by rw [upd_ne hDl.symm]; exact hl4, fun y => if y = e then some n else f y, ?_, fun z y => ?_⟩
              · rw [kee hff']
                exact A4.wr hDr (hD0 hD1)
              · rw [upd_same, rm_set]
                congr 2
                refine List.map_congr_left fun y _ => ?_
                show _ = ov (if y = e then some n else f y)
                by_cases c : y = e
                · rw [if_pos c, if_pos c]
                  rfl
                · rw [if_neg c, if_neg c]
              · show (if y = e then some n else f y) = _
                rw [hg4]
                by_cases c : y = e
                · subst c
                  rw [if_pos rfl, if_pos (by simp), hgo']
                · rw [if_neg c, hf z y]
                  simp [c]
      · rintro σ H' ⟨v6, v8, rfl, A3, hl3, f, hD3, hf⟩
        rw [List.length_map, List.take_length] at A3 hf
        have hfa : (W.mid st L).fa = W.faF st := by
          funext y
          unfold WS.faF
          rw [hL]
          rfl
        have hmid : W.mid st L = { W with fa := W.faF st } := by
          rw [← hfa]
          rfl
        have noF : st.word ≠ "gather" ∧ st.word ≠ "op" ∧ st.word ≠ "reach" → W.mid st L = W := fun h => by
          have e1 : (W.mid st L).fa = W.fa := by
            funext y
            show (if y ∈ L ∧ (W.flf y st).isSome = true then W.flf y st else W.fa y) = W.fa y
            rw [flf_none h, if_neg (fun z => by cases z.2)]
          show ({ W with fa := (W.mid st L).fa } : WS) = W
          rw [e1]
        by_cases hs1 : st.word = "save"
        · refine ⟨_, rfl, _, _, _, _, rfl, rfl, A3.tup hs, st.at0, rfl, _, rfl, iteDT (congrArg V.str hs1) ?_⟩
          have n1 : st.word ≠ "gather" := by rw [hs1]; decide +kernel
          have n2 : st.word ≠ "op" := by rw [hs1]; decide +kernel
          have n3 : st.word ≠ "reach" := by rw [hs1]; decide +kernel
          obtain ⟨s, p, md, rfl⟩ : ∃ s p md, st = .save s p md := by
            cases st <;> first | exact ⟨_, _, _, rfl⟩ | exact absurd hs1 (by simp only [Stp.word]; decide +kernel)
          rw [noF ⟨n1, n2, n3⟩] at A3
          have hf' := hf n3
          have e5 : f = W.layF md (fun e => some (W.num p e)) := by
            funext y
            rw [hf' y]
            unfold WS.layF
            have hL' : W.actL md = L := hL
            rw [hL']
            rfl
          subst e5
          have A5 := A3.newSlot ok.2.2 (hD0 hD1) hDr hD3 (fun e n h => by
            have h' : (if e ∈ W.actL md then some (W.num p e) else none) = some n := h
            split at h'
            · cases h'
              exact A.wf.numk p e
            · cases h')
          exact ⟨_, rfl, _, rfl, _, _, rfl, A3.d4, _, rfl, _, _, _, _, rfl, rfl, A3.tup hs, atI_of (j := 1) rfl rfl, _, _, _, _, rfl, rfl, A3.at_ .tl rfl, ixN_of rfl (by rw [List.length_map, List.length_range]; exact ok.2.2), kQ _ _ (by exact putAd_ne (fun z => by cases z)) (by exact putAd_ne (fun z => by cases z)) A5⟩
        · refine ⟨_, rfl, _, _, _, _, rfl, rfl, A3.tup hs, st.at0, rfl, _, rfl, iteDF (fun z => hs1 (V.str.inj z)) ?_⟩
          by_cases hr : st.word = "reach"
          · refine ⟨_, rfl, _, _, _, _, rfl, rfl, A3.tup hs, st.at0, rfl, _, rfl, iteNF (congrArg V.str hr) ?_⟩
            obtain ⟨p, n, md, rfl⟩ : ∃ p n md, st = .reach p n md := by
              cases st <;> first | exact ⟨_, _, _, rfl⟩ | exact absurd hr (by simp only [Stp.word]; decide +kernel)
            rw [hmid] at A3
            exact kQ ad _ rfl rfl A3
          · refine ⟨_, rfl, _, _, _, _, rfl, rfl, A3.tup hs, st.at0, rfl, _, rfl, iteNS' (fun z => hr (V.str.inj z)) ?_⟩
            have hl5 : st.lays = true := by
              cases st <;> first | rfl | (cases hp; done) | exact (hr rfl).elim | exact (hs1 rfl).elim | exact (hc (.inl rfl)).elim | exact (hc (.inr rfl)).elim
            have hpl : W.played st = { W with se := fun q e => if q = st.seat then W.layF st.mask (W.gotO st) e else W.se q e, fa := W.faF st } := by
              cases st <;> first | rfl | (cases hl5; done)
            have hse : st.seat < W.nse := by
              cases st <;> first | exact ok.2 | exact ok.2.1 | (cases hl5; done)
            have e5 : f = W.layF st.mask (W.gotO st) := by
              funext y
              rw [hf hr y]
              unfold WS.layF
              rw [hL]
            subst e5
            rw [hpl] at kQ
            rw [hmid] at A3
            have A5 := A3.newSeat hse (hD0 hD1) hDr hD3 (fun e n h => by
              have h' : (if e ∈ W.actL st.mask then W.gotO st e else none) = some n := h
              split at h'
              · rename_i c
                exact wgot_kr A.wf ok (mem_wact.mp c).1 h'
              · cases h')
            exact ⟨_, rfl, _, rfl, _, _, rfl, A3.d1, _, rfl, _, _, _, _, rfl, rfl, A3.tup hs, Stp.at1 hl5, _, _, _, _, rfl, rfl, A3.at_ .sl rfl, ixN_of rfl (by rw [List.length_map, List.length_range]; exact hse), kQ _ _ (by exact putAd_ne (fun z => by cases z)) (by exact putAd_ne (fun z => by cases z)) A5⟩
theorem cal__law_played {P : Program} {w : World} {K : PySem.W.Frag} {mg : Str → Option Value} {base : Heap} (T : Txt w K mg) : Cal P w K mg base 4 "_law_played" ["_law_world", "_law_step_here", "_law_parts_here"] (sp__law_played K) := ⟨_, _, ok__law_played T, T.g__law_played, T.f__law_played.kp, T.f__law_played.bindsN (ps := ["_law_world", "_law_step_here", "_law_parts_here"]) fun _ _ _ _ _ _ us hl => match us, hl with | [_, _, _], _ => rfl⟩
end Rb
end

section
set_option Elab.async false
set_option linter.all false
set_option maxRecDepth 100000
set_option maxHeartbeats 4000000
namespace Rb
open PySem PySem.Spec PyProof.Rows L2

/-- what an effect makes of the rows, element by element: the rows and what is carried -/
def WS.dueS (W : WS) (st : Stp) (s : (Nat → Nat → Int) × Option Int) (e : Nat) : (Nat → Nat → Int) × Option Int := match st with
  | .store row p _ => (upd2 s.1 row e (W.num p e), s.2)
  | .put row q p _ => (upd2 s.1 row (W.num q e).toNat (W.num p e), s.2)
  | .fold row f p _ => (upd2 s.1 row 0 (jn f (s.1 row 0) (W.num p e)), s.2)
  | .running row f p _ => match s.2 with
    | none => (upd2 s.1 row e (W.num p e), some (W.num p e))
    | some c => (upd2 s.1 row e (jn f c (W.num p e)), some (jn f c (W.num p e)))
  | _ => s
def WS.dueL (W : WS) (st : Stp) (es : List Nat) : (Nat → Nat → Int) × Option Int := es.foldl (W.dueS st) (W.pr, none)
def WS.due (W : WS) (last : Nat) (st : Stp) : Nat → Nat → Int := (W.dueL st ((W.actL st.mask).takeWhile fun e => decide (e < last))).1
theorem dueL_snoc {W : WS} {st : Stp} {es : List Nat} {e : Nat} : W.dueL st (es ++ [e]) = W.dueS st (W.dueL st es) e := by
  unfold WS.dueL
  rw [List.foldl_append]
  rfl
theorem tw_all {p : Nat → Bool} : ∀ (l : List Nat), (∀ e ∈ l, p e = true) → l.takeWhile p = l
  | [], _ => rfl
  | x :: r, h => by
    rw [List.takeWhile_cons, if_pos (h x List.mem_cons_self), tw_all r fun e he => h e (List.mem_cons_of_mem _ he)]
theorem tw_take {p : Nat → Bool} : ∀ (l : List Nat) (i x : Nat), l[i]? = some x → p x = false → (∀ e ∈ l.take i, p e = true) → l.takeWhile p = l.take i
  | [], i, x, h, _, _ => by simp at h
  | y :: r, 0, x, h, hx, _ => by
    have e : y = x := by simpa using h
    subst e
    rw [List.takeWhile_cons, if_neg (by rw [hx]; decide)]
    rfl
  | y :: r, i + 1, x, h, hx, ha => by
    have h' : r[i]? = some x := by simpa using h
    rw [List.takeWhile_cons, if_pos (ha y (by simp)), List.take_succ_cons, tw_take r i x h' hx fun e he => ha e (by rw [List.take_succ_cons]; exact List.mem_cons_of_mem _ he)]
/-- the four effects -/
def Stp.due : Stp → Bool
  | .store _ _ _ => true
  | .put _ _ _ _ => true
  | .fold _ _ _ _ => true
  | .running _ _ _ _ => true
  | _ => false
def carV : Option Int → List V
  | none => []
  | some n => [.int n]
theorem pr_rd {W : WS} {f : Nat → Nat → Int} {st : Stp} {e : Nat} : ({ W with pr := f } : WS).rd e st = W.rd e st := by cases st <;> rfl
theorem lty {K : PySem.W.Frag} {H : Hp} {p : Addr} {xs : List V} (h : H p = some (.lst xs)) : tyV K "list" (.ref p) H := .inl ⟨rfl, _, SqL.of h⟩
def sp__law_due (K : PySem.W.Frag) : Sp := fun vs H Q _ => ∃ (H0 : Hp) (ad : Rw → Addr) (W : WS) (sa : Addr) (st : Stp) (last t0 : Nat), vs = [.ref (ad .wd), .ref sa, .ref (ad .pl), .int last] ∧ WA H0 ad W H ∧ H0 sa = some (.tup st.vals) ∧ W.ok st ∧ W.laid st ∧ st.due = true ∧
  (∀ row q p md, st = .put row q p md → ∀ e ∈ W.actL md, e < last → 0 ≤ W.num q e ∧ W.num q e < (W.ln row : Int)) ∧
  ∀ H', WA H0 ad { W with pr := W.due last st } H' → Q .non H'
theorem sc__law_due : FnScope ["_law_world", "_law_step_here", "_law_parts_here", "_law_last", "_law_carried", "_law_e", "_law_reads"] ["_law_world", "_law_step_here", "_law_parts_here", "_law_last"] (defScope s__law_due) := ⟨rfl, rfl, rfl, by decide +kernel, rfl, by decide +kernel, by decide +kernel⟩
theorem ok__law_due {P : Program} {w : World} {K : PySem.W.Frag} {mg : Str → Option Value} {base : Heap} (T : Txt w K mg) : FnOk P w K mg base CX0 3 (ad__law_due K) (fdOf K (ad__law_due K)) ["_law_world", "_law_step_here", "_law_parts_here", "_law_last"] (sp__law_due K) := by
  have C__law_active := cal__law_active (P := P) (base := base) T
  have C__law_joined := cal__law_joined (P := P) (base := base) T
  have C__law_read := cal__law_read (P := P) (base := base) T
  refine T.f__law_due.ok sc__law_due (fun vs H Q E h => ?_) (fun cdv A outer s H vs Q E hr h => ?_)
  · obtain ⟨_, _, _, _, _, _, _, rfl, _⟩ := h
    rfl
  · have hu := hu_of hr
    have nd := sc__law_due.nd
    refine ⟨_, PSs.nox ((pss_cons (ps_set (i := 4) nd rfl (Or.inl rfl) (pe_lst pa_nil))
      (pss_one (ps_for PassesOwn.never rfl (pi_list (pe_cl C__law_active (hr.mono (by decide)) (pa_cons (pv 0) (pa_cons (pe_ix ix_tup (pv 1) (pe_un un_neg pe_int) (fun _ _ => rfl)) pa_nil)))) (pg_name (i := 5) nd rfl (Or.inl rfl))
      (pss_cons (ps_set (i := 6) nd rfl (Or.inl rfl) (pe_cl C__law_read (hr.mono (by decide)) (pa_cons (pv 0) (pa_cons (pv 1) (pa_cons (pv 5) pa_nil)))))
      (pss_cons (ps_if (pt_cmpR op_ge (pv 5) (pv 3) (nomark _))
      (pss_one ps_break)
      pss_nil)
      (pss_one (ps_if (pt_cmpR op_eq (pe_ix ix_tup (pv 1) pe_int (fun _ _ => rfl)) pe_str (nomark _))
      (pss_one (ps_asg (pe_ix ix_list (pv 6) pe_int (fun _ _ => rfl)) (pg_sub (pe_ix ix_list (pv 2) (pe_ix ix_tup (pv 1) pe_int (fun _ _ => rfl)) (fun _ _ => rfl)) (pv 5) set_list)))
      (pss_one (ps_if (pt_cmpR op_eq (pe_ix ix_tup (pv 1) pe_int (fun _ _ => rfl)) pe_str (nomark _))
      (pss_one (ps_asg (pe_ix ix_list (pv 6) pe_int (fun _ _ => rfl)) (pg_sub (pe_ix ix_list (pv 2) (pe_ix ix_tup (pv 1) pe_int (fun _ _ => rfl)) (fun _ _ => rfl)) (pe_ix ix_list (pv 6) pe_int (fun _ _ => rfl)) set_list)))
      (pss_one (ps_if (pt_cmpR op_eq (pe_ix ix_tup (pv 1) pe_int (fun _ _ => rfl)) pe_str (nomark _))
      (pss_one (ps_asg (pe_cl C__law_joined (hr.mono (by decide)) (pa_cons (pe_ix ix_tup (pv 1) pe_int (fun _ _ => rfl)) (pa_cons (pe_ix ix_list (pe_ix ix_list (pv 2) (pe_ix ix_tup (pv 1) pe_int (fun _ _ => rfl)) (fun _ _ => rfl)) pe_int (fun _ _ => rfl)) (pa_cons (pe_ix ix_list (pv 6) pe_int (fun _ _ => rfl)) pa_nil)))) (pg_sub (pe_ix ix_list (pv 2) (pe_ix ix_tup (pv 1) pe_int (fun _ _ => rfl)) (fun _ _ => rfl)) pe_int set_list)))
      (pss_cons (ps_if (pt_cmpR op_gt (pe_callB call_len_seq rfl T.b_len PySem.boot_len (pa_cons (pv 4) pa_nil)) pe_int (nomark _))
      (pss_one (ps_asg (pe_cl C__law_joined (hr.mono (by decide)) (pa_cons (pe_ix ix_tup (pv 1) pe_int (fun _ _ => rfl)) (pa_cons (pe_bm0 PySem.F.plainAttrs_list PySem.F.slot_list_pop PySem.F.type_list_pop mt_pop (pv 4)) (pa_cons (pe_ix ix_list (pv 6) pe_int (fun _ _ => rfl)) pa_nil)))) (pg_sub (pv 6) pe_int set_list)))
      pss_nil)
      (pss_cons (ps_expr (pe_bm PySem.F.plainAttrs_list PySem.F.slot_list_append PySem.F.type_list_append mt_append (pv 4) (pa_cons (pe_ix ix_list (pv 6) pe_int (fun _ _ => rfl)) pa_nil)))
      (pss_one (ps_asg (pe_ix ix_list (pv 6) pe_int (fun _ _ => rfl)) (pg_sub (pe_ix ix_list (pv 2) (pe_ix ix_tup (pv 1) pe_int (fun _ _ => rfl)) (fun _ _ => rfl)) (pv 5) set_list))))))))))))))))), ?_⟩
    obtain ⟨H0, ad, W, sa, st, last, t0, rfl, A, hs, ok, hlaid, hd, hput, kQ⟩ := h
    have eff := ok.eff
    have hm4 := A.wf.m1
    refine ⟨nil_sz, fun C hC => ?_⟩
    have s0 : Same H (upd H C (.lst [])) := same_new hC
    have hC0 : H0 C = none := A.same.free hC
    have hCr := A.new_off hC
    have hC1 : upd H C (.lst []) C = some (.lst []) := upd_same
    generalize upd H C (.lst []) = H1 at s0 hC1 ⊢
    have A1 := A.sm s0
    refine ⟨_, rfl, _, rfl, _, rfl, _, _, _, _, rfl, rfl, A1.tup hs, Stp.atM eff, H0, ad, W, st.mask, rfl, A1, ok.1, fun l H2 hl s1 h2 => ?_⟩
    have A2 := A1.sm s1
    have hC2 := s1 _ _ hC1
    have hlC : l ≠ C := fun z => by rw [z, hC1] at hl; cases hl
    have hlr := A1.new_off hl
    have hl0 : H0 l = none := A1.same.free hl
    generalize hL : W.actL st.mask = L at *
    have hLm : ∀ e ∈ L, e < W.many := fun e he => by rw [← hL] at he; exact (mem_wact.mp he).1
    refine ⟨l, rfl, ⟨_, SqL.of h2⟩, for_list (K := K) (a := l) (xs := L.map fun (e : Nat) => V.int (e : Int)) (fun i σ H' => ∃ (v5 v6 : Option V), σ = [some (.ref (ad .wd)), some (.ref sa), some (.ref (ad .pl)), some (.int (last : Int)), some (.ref C), v5, v6] ∧ WA H0 ad { W with pr := (W.dueL st (L.take i)).1 } H' ∧ H' l = some (.lst (L.map fun (e : Nat) => V.int (e : Int))) ∧
          H' C = some (.lst (carV (W.dueL st (L.take i)).2)) ∧ (∀ c, (W.dueL st (L.take i)).2 = some c → KR c) ∧ ∀ e ∈ L.take i, e < last)
        ⟨none, none, rfl, A2, h2, hC2, fun c z => (by cases z), fun e h => (by rw [List.take_zero] at h; cases h)⟩ (fun i σ H' _ ⟨_, _, _, _, h3, _⟩ => SqL.of h3) ?_ ?_⟩
    · rintro i y σ H3 hi ⟨v5, v6, rfl, A3, hl3, hC3, hck, hlt⟩
      obtain ⟨e, he, rfl⟩ := il_get hi
      have hm : e ∈ L := List.mem_of_getElem? he
      have hem := hLm e hm
      have hn : none ∉ W.rd e st := hlaid e (by rw [hL]; exact hm)
      refine ⟨_, rfl, _, rfl, _, rfl, H0, ad, _, sa, st, e, rfl, A3, hs, ok, hem, fun pr H4 hp4 s4 h4 => ?_⟩
      rw [pr_rd] at h4
      have A4 := A3.sm s4
      have hl4 := s4 _ _ hl3
      have hC4 := s4 _ _ hC3
      refine ⟨_, rfl, _, rfl, _, _, rfl, rfl, _, rfl, iteD (fun c1 => ?_) (fun c1 => ?_)⟩
      · have c2 : last ≤ e := by
          have c1' : (e : Int) ≥ (last : Int) := c1
          omega
        refine kQ _ ?_
        unfold WS.due
        rw [hL, tw_take L i e he (decide_eq_false (by omega)) fun x hx => decide_eq_true (hlt x hx)]
        exact A4
      · have c2 : e < last := by
          have c1' : ¬ (e : Int) ≥ (last : Int) := c1
          omega
        have hlt2 : ∀ x ∈ L.take (i + 1), x < last := fun x hx => by
          rw [take_snoc he, List.mem_append, List.mem_singleton] at hx
          rcases hx with hx | rfl
          · exact hlt x hx
          · exact c2
        have hsn : W.dueL st (L.take (i + 1)) = W.dueS st (W.dueL st (L.take i)) e := by rw [take_snoc he, dueL_snoc]
        generalize hS : W.dueL st (L.take i) = S at *
        obtain ⟨rc, car⟩ := S
        have nxt : ∀ (row j : Nat) (v : Int) (H5 : Hp) (car' : Option Int), row < 7 → KR v → WA H0 ad { W with pr := rc } H5 → H5 l = some (.lst (L.map fun (e : Nat) => V.int (e : Int))) → H5 C = some (.lst (carV car')) → (∀ c, car' = some c → KR c) → W.dueS st (rc, car) e = (upd2 rc row j v, car') →
            ∃ (v5' v6' : Option V), [some (V.ref (ad .wd)), some (.ref sa), some (.ref (ad .pl)), some (.int (last : Int)), some (.ref C), some (.int (e : Int)), some (.ref pr)] = [some (.ref (ad .wd)), some (.ref sa), some (.ref (ad .pl)), some (.int (last : Int)), some (.ref C), v5', v6'] ∧ WA H0 ad { W with pr := (W.dueL st (L.take (i + 1))).1 } (upd H5 (ad (.part row)) (.lst (((List.range (W.ln row)).map fun e => V.int (rc row e)).set j (.int v)))) ∧
              upd H5 (ad (.part row)) (.lst (((List.range (W.ln row)).map fun e => V.int (rc row e)).set j (.int v))) l = some (.lst (L.map fun (e : Nat) => V.int (e : Int))) ∧ upd H5 (ad (.part row)) (.lst (((List.range (W.ln row)).map fun e => V.int (rc row e)).set j (.int v))) C = some (.lst (carV (W.dueL st (L.take (i + 1))).2)) ∧ (∀ c, (W.dueL st (L.take (i + 1))).2 = some c → KR c) ∧ ∀ e ∈ L.take (i + 1), e < last := by
          intro row j v H5 car' h7 hv A5 hl5 hC5 hk5 hS2
          rw [hsn, hS2]
          exact ⟨_, _, rfl, A5.setPart h7 hv, by rw [upd_ne (hlr (.part row) (decide_eq_true h7))]; exact hl5, by rw [upd_ne (hCr (.part row) (decide_eq_true h7))]; exact hC5, hk5, hlt2⟩
        have nk := A.wf.numk
        have test : ∀ {b : Str} {A B : Prop}, True := fun {_ _ _} => trivial
        have prC : pr ≠ C := fun z => by rw [z] at hp4; rw [hC3] at hp4; cases hp4
        have prl : pr ≠ l := fun z => by rw [z] at hp4; rw [hl3] at hp4; cases hp4
        have hprr := A3.new_off hp4
        have hpr0 : H0 pr = none := A3.same.free hp4
        cases st with
        | store row p md =>
          have h7 : row < 7 := by have := ok.2.2; omega
          have e1 := num_of (q := p) hn
          have h5 : H4 pr = some (.lst [.int (W.num p e)]) := by rw [h4]; show some (HO.lst [ov (W.se p e)]) = _; rw [e1]; rfl
          have hle : e < W.ln row := by have := ok.2.2; rw [this, A.wf.lnr.2.2.2.1]; exact hem
          refine ⟨_, rfl, _, _, _, _, rfl, rfl, A4.tup hs, atI_of (j := 0) rfl rfl, rfl, _, rfl, iteDT rfl ?_⟩
          exact ⟨_, rfl, _, _, _, _, rfl, rfl, SqL.of h5, atI_of (j := 0) rfl rfl, _, rfl, _, rfl, _, _, _, _, rfl, rfl, A4.tup hs, atI_of (j := 1) rfl rfl, _, _, _, _, rfl, rfl, A4.plL, atI_of rfl (rm_get h7), _, rfl, _, _, _, _, rfl, rfl, A4.at_ (.part row) (decide_eq_true h7), ixN_of rfl (by rw [List.length_map, List.length_range]; exact hle), nxt row e _ _ car h7 (nk p e) A4 hl4 hC4 hck rfl⟩
        | put row q p md =>
          have h7 : row < 7 := by have := ok.2.2.2; omega
          have e1 : W.se p e = some (W.num p e) := num_of fun z => hn (by rcases List.mem_singleton.mp z with z; show none ∈ [W.se p e, W.se q e]; rw [← z]; simp)
          have e2 : W.se q e = some (W.num q e) := num_of fun z => hn (by rcases List.mem_singleton.mp z with z; show none ∈ [W.se p e, W.se q e]; rw [← z]; simp)
          have h5 : H4 pr = some (.lst [.int (W.num p e), .int (W.num q e)]) := by rw [h4]; show some (HO.lst [ov (W.se p e), ov (W.se q e)]) = _; rw [e1, e2]; rfl
          have hb := hput row q p md rfl e (by have hL' : W.actL md = L := hL; rw [hL']; exact hm) c2
          refine ⟨_, rfl, _, _, _, _, rfl, rfl, A4.tup hs, atI_of (j := 0) rfl rfl, rfl, _, rfl, iteDF (wne (b := "put") rfl (by decide +kernel)) ?_⟩
          refine ⟨_, rfl, _, _, _, _, rfl, rfl, A4.tup hs, atI_of (j := 0) rfl rfl, rfl, _, rfl, iteDT rfl ?_⟩
          exact ⟨_, rfl, _, _, _, _, rfl, rfl, SqL.of h5, atI_of (j := 0) rfl rfl, _, rfl, _, rfl, _, _, _, _, rfl, rfl, A4.tup hs, atI_of (j := 1) rfl rfl, _, _, _, _, rfl, rfl, A4.plL, atI_of rfl (rm_get h7), _, rfl, _, _, _, _, rfl, rfl, SqL.of h5, atI_of (j := 1) rfl rfl, _, _, _, _, rfl, rfl, A4.at_ (.part row) (decide_eq_true h7), ixN_of (j := (W.num q e).toNat) (by rw [Int.toNat_of_nonneg hb.1]) (by rw [List.length_map, List.length_range]; show (W.num q e).toNat < W.ln row; have := hb.1; have := hb.2; omega), nxt row _ _ _ car h7 (nk p e) A4 hl4 hC4 hck rfl⟩
        | fold row f p md =>
          have h7 : row < 7 := by have := ok.2.2.1; omega
          have e1 : W.se p e = some (W.num p e) := num_of fun z => hn (by rcases List.mem_singleton.mp z with z; show none ∈ [W.se p e, some 0]; rw [← z]; simp)
          have h5 : H4 pr = some (.lst [.int (W.num p e), .int 0]) := by rw [h4]; show some (HO.lst [ov (W.se p e), ov (some 0)]) = _; rw [e1]; rfl
          have hp0 := A.wf.lnr.1 row h7
          have hrk : KR (rc row 0) := A3.wf.prk row 0
          refine ⟨_, rfl, _, _, _, _, rfl, rfl, A4.tup hs, atI_of (j := 0) rfl rfl, rfl, _, rfl, iteDF (wne (b := "fold") rfl (by decide +kernel)) ?_⟩
          refine ⟨_, rfl, _, _, _, _, rfl, rfl, A4.tup hs, atI_of (j := 0) rfl rfl, rfl, _, rfl, iteDF (wne (b := "fold") rfl (by decide +kernel)) ?_⟩
          refine ⟨_, rfl, _, _, _, _, rfl, rfl, A4.tup hs, atI_of (j := 0) rfl rfl, rfl, _, rfl, iteDT rfl ?_⟩
          exact ⟨_, rfl, _, _, _, _, rfl, rfl, A4.tup hs, atI_of (j := 2) rfl rfl, _, rfl, _, rfl, _, _, _, _, rfl, rfl, A4.tup hs, atI_of (j := 1) rfl rfl, _, _, _, _, rfl, rfl, A4.plL, atI_of rfl (rm_get h7), _, _, _, _, rfl, rfl, A4.partL h7, atI_of (j := 0) rfl (rm_get hp0), _, rfl, _, _, _, _, rfl, rfl, SqL.of h5, atI_of (j := 0) rfl rfl, f, rc row 0, W.num p e, rfl, ok.2.2.2, hrk, nk p e, _, rfl, _, rfl, _, _, _, _, rfl, rfl, A4.tup hs, atI_of (j := 1) rfl rfl, _, _, _, _, rfl, rfl, A4.plL, atI_of rfl (rm_get h7), _, _, _, _, rfl, rfl, A4.at_ (.part row) (decide_eq_true h7), ixN_of (j := 0) rfl (by rw [List.length_map, List.length_range]; exact hp0), nxt row 0 _ _ car h7 (jn_kr ok.2.2.2 hrk (nk p e)) A4 hl4 hC4 hck rfl⟩
        | running row f p md =>
          have h7 : row < 7 := by have := ok.2.2.1; omega
          have e1 : W.se p e = some (W.num p e) := num_of fun z => hn (by rcases List.mem_singleton.mp z with z; show none ∈ [W.se p e, some 0]; rw [← z]; simp)
          have h5 : H4 pr = some (.lst [.int (W.num p e), .int 0]) := by rw [h4]; show some (HO.lst [ov (W.se p e), ov (some 0)]) = _; rw [e1]; rfl
          have hle : e < W.ln row := by have := ok.2.2.1; rw [this, A.wf.lnr.2.2.2.2]; exact hem
          refine ⟨_, rfl, _, _, _, _, rfl, rfl, A4.tup hs, atI_of (j := 0) rfl rfl, rfl, _, rfl, iteDF (wne (b := "running") rfl (by decide +kernel)) ?_⟩
          refine ⟨_, rfl, _, _, _, _, rfl, rfl, A4.tup hs, atI_of (j := 0) rfl rfl, rfl, _, rfl, iteDF (wne (b := "running") rfl (by decide +kernel)) ?_⟩
          refine ⟨_, rfl, _, _, _, _, rfl, rfl, A4.tup hs, atI_of (j := 0) rfl rfl, rfl, _, rfl, iteDF (wne (b := "running") rfl (by decide +kernel)) ?_⟩
          refine ⟨_, rfl, C, _, rfl, .inl (SqL.of hC4), _, _, rfl, rfl, _, rfl, ?_⟩
          cases car with
          | none =>
            refine iteDF (by show ¬ ((0 : Nat) : Int) > 0; decide) ?_
            have A7 := A4.wr (D := C) (o := .lst [.int (W.num p e)]) hCr hC0
            have h7p : upd H4 C (.lst [.int (W.num p e)]) pr = some (.lst [.int (W.num p e), .int 0]) := by rw [upd_ne prC]; exact h5
            have h7l : upd H4 C (.lst [.int (W.num p e)]) l = some (.lst (L.map fun (e : Nat) => V.int (e : Int))) := by rw [upd_ne hlC]; exact hl4
            refine ⟨_, rfl, lty hC4, _, rfl, _, _, _, _, rfl, rfl, SqL.of h5, atI_of (j := 0) rfl rfl, C, _, _, rfl, rfl, hC4, by show 0 < sizeLine; decide, ?_⟩
            exact ⟨_, rfl, _, _, _, _, rfl, rfl, SqL.of h7p, atI_of (j := 0) rfl rfl, _, rfl, _, rfl, _, _, _, _, rfl, rfl, A7.tup hs, atI_of (j := 1) rfl rfl, _, _, _, _, rfl, rfl, A7.plL, atI_of rfl (rm_get h7), _, rfl, _, _, _, _, rfl, rfl, A7.at_ (.part row) (decide_eq_true h7), ixN_of rfl (by rw [List.length_map, List.length_range]; exact hle), nxt row e _ _ (some (W.num p e)) h7 (nk p e) A7 h7l upd_same (fun c z => by cases z; exact nk p e) rfl⟩
          | some c =>
            refine iteDT (by show ((1 : Nat) : Int) > 0; decide) ?_
            have hck' : KR c := hck c rfl
            have hj := jn_kr ok.2.2.2 hck' (nk p e)
            have A5 := A4.wr (D := C) (o := .lst []) hCr hC0
            have h5p : upd H4 C (.lst []) pr = some (.lst [.int (W.num p e), .int 0]) := by rw [upd_ne prC]; exact h5
            have h5C : upd H4 C (.lst []) C = some (.lst []) := upd_same
            have h5l : upd H4 C (.lst []) l = some (.lst (L.map fun (e : Nat) => V.int (e : Int))) := by rw [upd_ne hlC]; exact hl4
            refine ⟨_, rfl, _, _, _, _, rfl, rfl, A4.tup hs, atI_of (j := 2) rfl rfl, _, rfl, lty hC4, C, _, _, rfl, rfl, hC4, rfl, ?_⟩
            refine ⟨_, rfl, _, _, _, _, rfl, rfl, SqL.of h5p, atI_of (j := 0) rfl rfl, f, c, W.num p e, rfl, ok.2.2.2, hck', nk p e, _, rfl, _, _, _, _, rfl, rfl, h5p, ixN_of (j := 0) rfl (by show 0 < 2; decide), ?_⟩
            have A6 := A5.wr (D := pr) (o := .lst [.int (jn f c (W.num p e)), .int 0]) hprr hpr0
            have h6C : upd (upd H4 C (.lst [])) pr (.lst [.int (jn f c (W.num p e)), .int 0]) C = some (.lst []) := by rw [upd_ne prC.symm]; exact h5C
            have h6p : upd (upd H4 C (.lst [])) pr (.lst [.int (jn f c (W.num p e)), .int 0]) pr = some (.lst [.int (jn f c (W.num p e)), .int 0]) := upd_same
            have h6l : upd (upd H4 C (.lst [])) pr (.lst [.int (jn f c (W.num p e)), .int 0]) l = some (.lst (L.map fun (e : Nat) => V.int (e : Int))) := by rw [upd_ne prl.symm]; exact h5l
            refine ⟨_, rfl, lty h6C, _, rfl, _, _, _, _, rfl, rfl, SqL.of h6p, atI_of (j := 0) rfl rfl, C, _, _, rfl, rfl, h6C, by show 0 < sizeLine; decide, ?_⟩
            have A7 := A6.wr (D := C) (o := .lst [.int (jn f c (W.num p e))]) hCr hC0
            have h7p : upd (upd (upd H4 C (.lst [])) pr (.lst [.int (jn f c (W.num p e)), .int 0])) C (.lst [.int (jn f c (W.num p e))]) pr = some (.lst [.int (jn f c (W.num p e)), .int 0]) := by rw [upd_ne prC]; exact h6p
            have h7l : upd (upd (upd H4 C (.lst [])) pr (.lst [.int (jn f c (W.num p e)), .int 0])) C (.lst [.int (jn f c (W.num p e))]) l = some (.lst (L.map fun (e : Nat) => V.int (e : Int))) := by rw [upd_ne hlC]; exact h6l
            exact ⟨_, rfl, _, _, _, _, rfl, rfl, SqL.of h7p, atI_of (j := 0) rfl rfl, _, rfl, _, rfl, _, _, _, _, rfl, rfl, A7.tup hs, atI_of (j := 1) rfl rfl, _, _, _, _, rfl, rfl, A7.plL, atI_of rfl (rm_get h7), _, rfl, _, _, _, _, rfl, rfl, A7.at_ (.part row) (decide_eq_true h7), ixN_of rfl (by rw [List.length_map, List.length_range]; exact hle), nxt row e _ _ (some (jn f c (W.num p e))) h7 hj A7 h7l upd_same (fun c' z => by cases z; exact hj) rfl⟩
        | _ => cases hd
    · rintro σ H3 ⟨v5, v6, rfl, A3, hl3, hC3, hck, hlt⟩
      rw [List.length_map, List.take_length] at A3 hlt
      refine kQ _ ?_
      unfold WS.due
      rw [hL, tw_all L fun x hx => decide_eq_true (hlt x hx)]
      exact A3
theorem cal__law_due {P : Program} {w : World} {K : PySem.W.Frag} {mg : Str → Option Value} {base : Heap} (T : Txt w K mg) : Cal P w K mg base 3 "_law_due" ["_law_world", "_law_step_here", "_law_parts_here", "_law_last"] (sp__law_due K) := ⟨_, _, ok__law_due T, T.g__law_due, T.f__law_due.kp, T.f__law_due.bindsN (ps := ["_law_world", "_law_step_here", "_law_parts_here", "_law_last"]) fun _ _ _ _ _ _ us hl => match us, hl with | [_, _, _, _], _ => rfl⟩
end Rb
end

section
set_option Elab.async false
set_option linter.all false
set_option maxRecDepth 100000
set_option maxHeartbeats 4000000
namespace Rb
open PySem PySem.Spec PyProof.Rows L2

theorem ls_nat (ns : List Int) (k salt : Nat) {n : Nat} (h : 0 < n) : ∃ p : Nat, p < n ∧ lsome ns k salt (n : Int) = (p : Int) := by
  have b := lsome_b ns k salt (many := (n : Int)) (by omega)
  exact ⟨(lsome ns k salt n).toNat, by omega, by omega⟩
theorem lst_at {α : Type} {xs : List α} {i : Int} (h0 : 0 ≤ i) (h1 : i < (xs.length : Int)) : ∃ x ∈ xs, atI xs i = some x := by
  have h2 : i.toNat < xs.length := by omega
  exact ⟨xs[i.toNat], List.getElem_mem h2, atI_of (by omega) (List.getElem?_eq_getElem h2)⟩
theorem ks_at {ks : List Nat} {i : Int} (h0 : 0 ≤ i) (h1 : i < (ks.length : Int)) : ∃ m ∈ ks, atI (ks.map fun (k : Nat) => V.int (k : Int)) i = some (.int (m : Int)) := by
  obtain ⟨x, hx, e⟩ := lst_at (xs := ks.map fun (k : Nat) => V.int (k : Int)) h0 (by rw [List.length_map]; exact h1)
  obtain ⟨m, hm, rfl⟩ := List.mem_map.mp hx
  exact ⟨m, hm, e⟩
theorem three_sz {x y z : V} : [x, y, z].length ≤ sizeLine := by
  show 3 ≤ sizeLine
  decide
theorem small_sz {xs : List V} (h : xs.length ≤ 100) : xs.length ≤ sizeLine := sz_le (Nat.le_trans h (by decide))
def sp__law_step (K : PySem.W.Frag) : Sp := fun vs H Q _ => ∃ (a : Addr) (ns : List Int) (k : Nat) (W : WS) (ka : Addr), vs = [.ref a, .int k, .int W.nse, .ref ka] ∧ SqL K H a (ns.map V.int) ∧ k ≤ 1000 ∧ 0 < W.nse ∧ W.ks ≠ [] ∧ SqL K H ka (W.ks.map fun (k : Nat) => V.int (k : Int)) ∧
  ∀ (st : Stp) (sa : Addr) H', H sa = none → Same H H' → H' sa = some (.tup st.vals) → (st = .trim ∨ (W.ok st ∧ st.pl = true)) → Q (.ref sa) H'
theorem sc__law_step : FnScope ["_law_script", "_law_k", "_law_seats", "_law_masks", "_law_p", "_law_q", "_law_r", "_law_m", "_law_row", "_law_slot", "_law_word", "_law_signs"] ["_law_script", "_law_k", "_law_seats", "_law_masks"] (defScope s__law_step) := ⟨rfl, rfl, rfl, by decide +kernel, rfl, by decide +kernel, by decide +kernel⟩
theorem ok__law_step {P : Program} {w : World} {K : PySem.W.Frag} {mg : Str → Option Value} {base : Heap} (T : Txt w K mg) : FnOk P w K mg base CX0 4 (ad__law_step K) (fdOf K (ad__law_step K)) ["_law_script", "_law_k", "_law_seats", "_law_masks"] (sp__law_step K) := by
  have C__law_some := cal__law_some (P := P) (base := base) T
  have C__law_number := cal__law_number (P := P) (base := base) T
  refine T.f__law_step.ok sc__law_step (fun vs H Q E h => ?_) (fun cdv A outer s H vs Q E hr h => ?_)
  · obtain ⟨_, _, _, _, _, rfl, _⟩ := h
    rfl
  · have hu := hu_of hr
    have nd := sc__law_step.nd
    refine ⟨_, PSs.nox ((pss_cons (ps_set (i := 4) nd rfl (Or.inl rfl) (pe_cl C__law_some (hr.mono (by decide)) (pa_cons (pv 0) (pa_cons (pv 1) (pa_cons pe_int (pa_cons (pv 2) pa_nil))))))
      (pss_cons (ps_set (i := 5) nd rfl (Or.inl rfl) (pe_cl C__law_some (hr.mono (by decide)) (pa_cons (pv 0) (pa_cons (pv 1) (pa_cons pe_int (pa_cons (pv 2) pa_nil))))))
      (pss_cons (ps_set (i := 6) nd rfl (Or.inl rfl) (pe_cl C__law_some (hr.mono (by decide)) (pa_cons (pv 0) (pa_cons (pv 1) (pa_cons pe_int (pa_cons (pv 2) pa_nil))))))
      (pss_cons (ps_set (i := 7) nd rfl (Or.inl rfl) (pe_ix ix_list (pv 3) (pe_cl C__law_some (hr.mono (by decide)) (pa_cons (pv 0) (pa_cons (pv 1) (pa_cons pe_int (pa_cons (pe_callB call_len_seq rfl T.b_len PySem.boot_len (pa_cons (pv 3) pa_nil)) pa_nil))))) (fun _ _ => rfl)))
      (pss_cons (ps_set (i := 8) nd rfl (Or.inl rfl) (pe_cl C__law_some (hr.mono (by decide)) (pa_cons (pv 0) (pa_cons (pv 1) (pa_cons pe_int (pa_cons pe_int pa_nil))))))
      (pss_cons (ps_set (i := 9) nd rfl (Or.inl rfl) (pe_ix ix_list (pe_lst (pa_cons pe_int (pa_cons pe_int (pa_cons pe_int pa_nil)))) (pe_cl C__law_some (hr.mono (by decide)) (pa_cons (pv 0) (pa_cons (pv 1) (pa_cons pe_int (pa_cons pe_int pa_nil))))) (fun _ _ => rfl)))
      (pss_cons (ps_set (i := 10) nd rfl (Or.inl rfl) (pe_cl C__law_some (hr.mono (by decide)) (pa_cons (pv 0) (pa_cons (pv 1) (pa_cons pe_int (pa_cons pe_int pa_nil))))))
      (pss_cons (ps_if (pt_cmpR op_eq (pv 10) pe_int (nomark _))
      (pss_one (ps_ret (pe_ix ix_list (pe_lst (pa_cons (pe_tup (pa_cons pe_str (pa_cons (pv 4) (pa_cons (pv 7) pa_nil)))) (pa_cons (pe_tup (pa_cons pe_str (pa_cons (pv 4) (pa_cons (pv 8) (pa_cons (pv 7) pa_nil))))) pa_nil))) (pe_cl C__law_some (hr.mono (by decide)) (pa_cons (pv 0) (pa_cons (pv 1) (pa_cons pe_int (pa_cons pe_int pa_nil))))) (fun _ _ => rfl))))
      pss_nil)
      (pss_cons (ps_if (pt_cmpR op_eq (pv 10) pe_int (nomark _))
      (pss_one (ps_ret (pe_tup (pa_cons pe_str (pa_cons (pv 4) (pa_cons (pe_cl C__law_some (hr.mono (by decide)) (pa_cons (pv 0) (pa_cons (pv 1) (pa_cons pe_int (pa_cons pe_int pa_nil))))) (pa_cons (pv 7) pa_nil)))))))
      pss_nil)
      (pss_cons (ps_if (pt_cmpR op_eq (pv 10) pe_int (nomark _))
      (pss_one (ps_ret (pe_tup (pa_cons pe_str (pa_cons (pv 4) (pa_cons (pv 8) (pa_cons (pe_op op_sub (pe_cl C__law_some (hr.mono (by decide)) (pa_cons (pv 0) (pa_cons (pv 1) (pa_cons pe_int (pa_cons pe_int pa_nil))))) pe_int) (pa_cons (pe_cl C__law_number (hr.mono (by decide)) (pa_cons (pv 0) (pa_cons (pv 1) pa_nil))) (pa_cons (pv 7) pa_nil)))))))))
      pss_nil)
      (pss_cons (ps_if (pt_cmpR op_eq (pv 10) pe_int (nomark _))
      (pss_one (ps_ret (pe_tup (pa_cons pe_str (pa_cons (pv 4) (pa_cons (pv 5) (pa_cons (pv 8) (pa_cons (pv 7) pa_nil))))))))
      pss_nil)
      (pss_cons (ps_if (pt_cmpR op_lt (pv 10) pe_int (nomark _))
      (pss_cons (ps_set (i := 11) nd rfl (Or.inl rfl) (pe_lst (pa_cons pe_str (pa_cons pe_str (pa_cons pe_str (pa_cons pe_str (pa_cons pe_str (pa_cons pe_str (pa_cons pe_str (pa_cons pe_str (pa_cons pe_str (pa_cons pe_str (pa_cons pe_str (pa_cons pe_str pa_nil))))))))))))))
      (pss_one (ps_ret (pe_tup (pa_cons pe_str (pa_cons (pv 4) (pa_cons (pe_ix ix_list (pv 11) (pe_cl C__law_some (hr.mono (by decide)) (pa_cons (pv 0) (pa_cons (pv 1) (pa_cons pe_int (pa_cons pe_int pa_nil))))) (fun _ _ => rfl)) (pa_cons (pv 5) (pa_cons (pv 6) (pa_cons (pv 7) pa_nil))))))))))
      pss_nil)
      (pss_cons (ps_if (pt_cmpR op_lt (pv 10) pe_int (nomark _))
      (pss_one (ps_ret (pe_tup (pa_cons pe_str (pa_cons (pv 4) (pa_cons (pv 5) (pa_cons (pv 6) (pa_cons (pe_ix ix_list (pv 3) (pe_cl C__law_some (hr.mono (by decide)) (pa_cons (pv 0) (pa_cons (pv 1) (pa_cons pe_int (pa_cons (pe_callB call_len_seq rfl T.b_len PySem.boot_len (pa_cons (pv 3) pa_nil)) pa_nil))))) (fun _ _ => rfl)) (pa_cons (pv 7) pa_nil)))))))))
      pss_nil)
      (pss_cons (ps_if (pt_cmpR op_eq (pv 10) pe_int (nomark _))
      (pss_one (ps_ret (pe_ix ix_list (pe_lst (pa_cons (pe_tup (pa_cons pe_str (pa_cons (pv 4) (pa_cons (pv 5) (pa_cons (pv 7) pa_nil))))) (pa_cons (pe_tup (pa_cons pe_str (pa_cons (pv 4) (pa_cons (pe_cl C__law_some (hr.mono (by decide)) (pa_cons (pv 0) (pa_cons (pv 1) (pa_cons pe_int (pa_cons pe_int pa_nil))))) (pa_cons (pv 7) pa_nil))))) pa_nil))) (pe_cl C__law_some (hr.mono (by decide)) (pa_cons (pv 0) (pa_cons (pv 1) (pa_cons pe_int (pa_cons pe_int pa_nil))))) (fun _ _ => rfl))))
      pss_nil)
      (pss_cons (ps_if (pt_cmpR op_eq (pv 10) pe_int (nomark _))
      (pss_one (ps_ret (pe_tup (pa_cons pe_str (pa_cons (pv 4) (pa_cons (pv 9) (pa_cons (pv 7) pa_nil)))))))
      pss_nil)
      (pss_cons (ps_if (pt_cmpR op_eq (pv 10) pe_int (nomark _))
      (pss_one (ps_ret (pe_tup (pa_cons pe_str (pa_cons (pv 9) (pa_cons (pv 4) (pa_cons (pv 7) pa_nil)))))))
      pss_nil)
      (pss_cons (ps_if (pt_cmpR op_eq (pv 10) pe_int (nomark _))
      (pss_one (ps_ret (pe_ix ix_list (pe_lst (pa_cons (pe_tup (pa_cons pe_str pa_nil)) (pa_cons (pe_tup (pa_cons pe_str (pa_cons (pv 4) (pa_cons (pe_cl C__law_number (hr.mono (by decide)) (pa_cons (pv 0) (pa_cons (pv 1) pa_nil))) (pa_cons (pv 7) pa_nil))))) pa_nil))) (pe_cl C__law_some (hr.mono (by decide)) (pa_cons (pv 0) (pa_cons (pv 1) (pa_cons pe_int (pa_cons pe_int pa_nil))))) (fun _ _ => rfl))))
      pss_nil)
      (pss_one (ps_ret (pe_tup (pa_cons (pe_ix ix_list (pe_lst (pa_cons pe_str (pa_cons pe_str pa_nil))) (pe_cl C__law_some (hr.mono (by decide)) (pa_cons (pv 0) (pa_cons (pv 1) (pa_cons pe_int (pa_cons pe_int pa_nil))))) (fun _ _ => rfl)) (pa_cons (pe_op op_add pe_int (pe_cl C__law_some (hr.mono (by decide)) (pa_cons (pv 0) (pa_cons (pv 1) (pa_cons pe_int (pa_cons pe_int pa_nil)))))) (pa_cons (pv 4) (pa_cons (pv 7) pa_nil))))))))))))))))))))))))), ?_⟩
    obtain ⟨a, ns, k, W, ka, rfl, hS, hk, hn, hne, hK, kQ⟩ := h
    have hkl : 0 < W.ks.length := List.length_pos_iff.mpr hne
    obtain ⟨p, hp, ep⟩ := ls_nat ns k 2 hn
    obtain ⟨q, hq, eq_⟩ := ls_nat ns k 3 hn
    obtain ⟨r, hr2, er⟩ := ls_nat ns k 4 hn
    have b5 := lsome_b ns k 5 (many := (W.ks.length : Int)) (by omega)
    have b8 := lsome_b ns k 8 (many := (W.ks.length : Int)) (by omega)
    obtain ⟨m, hm, em⟩ := ks_at b5.1 b5.2
    obtain ⟨m8, hm8, em8⟩ := ks_at b8.1 b8.2
    obtain ⟨row, hrow, erow⟩ := ls_nat ns k 6 (n := 3) (by decide)
    obtain ⟨sx, hsx, esx⟩ := ls_nat ns k 7 (n := 3) (by decide)
    obtain ⟨x2, hx2, ex2⟩ := ls_nat ns k 8 (n := 2) (by decide)
    obtain ⟨y2, hy2, ey2⟩ := ls_nat ns k 10 (n := 2) (by decide)
    obtain ⟨z15, hz15, ez15⟩ := ls_nat ns k 8 (n := 15) (by decide)
    have hlen : ((W.ks.map fun (k : Nat) => V.int (k : Int)).length : Int) = (W.ks.length : Int) := by rw [List.length_map]
    refine ⟨_, rfl, _, rfl, _, rfl, a, ns, k, 2, _, rfl, hS, by omega, by decide, by omega, ?_⟩
    rw [ep]
    refine ⟨_, rfl, _, rfl, _, rfl, a, ns, k, 3, _, rfl, hS, by omega, by decide, by omega, ?_⟩
    rw [eq_]
    refine ⟨_, rfl, _, rfl, _, rfl, a, ns, k, 4, _, rfl, hS, by omega, by decide, by omega, ?_⟩
    rw [er]
    refine ⟨_, rfl, _, rfl, _, rfl, _, rfl, ka, _, rfl, .inl hK, a, ns, k, 5, _, rfl, hS, by omega, by decide, by rw [hlen]; omega, ?_⟩
    rw [hlen]
    refine ⟨_, _, _, _, rfl, rfl, hK, em, ?_⟩
    refine ⟨_, rfl, _, rfl, a, ns, k, 6, 3, rfl, hS, by omega, by decide, by decide, ?_⟩
    rw [show lsome ns k 6 3 = (row : Int) from erow]
    refine ⟨small_sz (by decide), fun l1 hl1 => ?_⟩
    have b7 := lsome_b ns k 7 (many := 3) (by decide)
    have b12 := lsome_b ns k 8 (many := 12) (by decide)
    obtain ⟨xs7, hxs7, exs7⟩ := lst_at (xs := [V.int 0, V.int 7, V.int 59]) (i := lsome ns k 7 3) b7.1 b7.2
    obtain ⟨slot, hslot, rfl⟩ : ∃ slot : Nat, slot < 60 ∧ xs7 = .int (slot : Int) := by
      simp only [List.mem_cons, List.not_mem_nil, or_false] at hxs7
      rcases hxs7 with rfl | rfl | rfl
      · exact ⟨0, by decide, rfl⟩
      · exact ⟨7, by decide, rfl⟩
      · exact ⟨59, by decide, rfl⟩
    have s1 : Same H (upd H l1 (.lst [.int 0, .int 7, .int 59])) := same_new hl1
    have hL1 : upd H l1 (.lst [.int 0, .int 7, .int 59]) l1 = some (.lst [.int 0, .int 7, .int 59]) := upd_same
    have s1f : ∀ {x : Addr}, upd H l1 (.lst [.int 0, .int 7, .int 59]) x = none → H x = none := fun h => s1.free h
    generalize upd H l1 (.lst [.int 0, .int 7, .int 59]) = H1 at s1 hL1 s1f ⊢
    have hS1 := s1.seq hS
    refine ⟨_, rfl, _, rfl, a, ns, k, 7, 3, rfl, hS1, by omega, by decide, by decide, _, _, _, _, rfl, rfl, SqL.of hL1, exs7, ?_⟩
    refine ⟨_, rfl, _, rfl, a, ns, k, 1, 16, rfl, hS1, by omega, by decide, by decide, ?_⟩
    have fin : ∀ (st : Stp) (t : Addr) (H' : Hp), H1 t = none → Same H1 H' → H' t = some (.tup st.vals) → (st = .trim ∨ (W.ok st ∧ st.pl = true)) → Q (.ref t) H' := fun st t H' h1 h2 h3 h4 => kQ st t H' (s1f h1) (s1.trans h2) h3 h4
    have one : ∀ (st : Stp) (xs : List V) (t : Addr), H1 t = none → xs = st.vals → (st = .trim ∨ (W.ok st ∧ st.pl = true)) → Q (.ref t) (upd H1 t (.tup xs)) := fun st xs t ht hx h4 => fin st t _ ht (same_new ht) (by rw [hx]; exact upd_same) h4
    refine ⟨_, rfl, rfl, _, rfl, iteI (fun c => ?_) (fun c => ?_)⟩
    · skip
      refine ⟨_, rfl, _, rfl, small_sz (by simp), fun t1 ht1 => ?_⟩
      have sA : Same H1 (upd H1 t1 (.tup [.str "here", .int p, .int m])) := same_new ht1
      have hA : upd H1 t1 (.tup [.str "here", .int p, .int m]) t1 = some (.tup [.str "here", .int p, .int m]) := upd_same
      have fA : ∀ {x : Addr}, upd H1 t1 (.tup [.str "here", .int p, .int m]) x = none → H1 x = none := fun h => sA.free h
      generalize upd H1 t1 (.tup [.str "here", .int p, .int m]) = HA at sA hA fA ⊢
      refine ⟨_, rfl, _, rfl, _, rfl, small_sz (by simp), fun t2 ht2 => ?_⟩
      have sB : Same HA (upd HA t2 (.tup [.str "spread", .int p, .int row, .int m])) := same_new ht2
      have hB : upd HA t2 (.tup [.str "spread", .int p, .int row, .int m]) t2 = some (.tup [.str "spread", .int p, .int row, .int m]) := upd_same
      have fB : ∀ {x : Addr}, upd HA t2 (.tup [.str "spread", .int p, .int row, .int m]) x = none → HA x = none := fun h => sB.free h
      generalize upd HA t2 (.tup [.str "spread", .int p, .int row, .int m]) = HB at sB hB fB ⊢
      refine ⟨small_sz (by simp), fun l2 hl2 => ?_⟩
      have sC : Same HB (upd HB l2 (.lst [.ref t1, .ref t2])) := same_new hl2
      have hC : upd HB l2 (.lst [.ref t1, .ref t2]) l2 = some (.lst [.ref t1, .ref t2]) := upd_same
      generalize upd HB l2 (.lst [.ref t1, .ref t2]) = HC at sC hC ⊢
      have s3 := (sA.trans sB).trans sC
      refine ⟨_, rfl, _, rfl, a, ns, k, 8, 2, rfl, (s3.seq hS1), by omega, by decide, by decide, ?_⟩
      rw [show lsome ns k 8 2 = (x2 : Int) from ex2]
      have hx01 : x2 = 0 ∨ x2 = 1 := by omega
      rcases hx01 with h0 | h0
      · exact ⟨_, _, _, _, rfl, rfl, SqL.of hC, atI_of (j := 0) (by rw [h0]) rfl, fin (.here p m) t1 _ ht1 s3 (sC _ _ (sB _ _ hA)) (.inr ⟨⟨hm, hp⟩, rfl⟩)⟩
      · exact ⟨_, _, _, _, rfl, rfl, SqL.of hC, atI_of (j := 1) (by rw [h0]) rfl, fin (.spread p row m) t2 _ (fA ht2) s3 (sC _ _ hB) (.inr ⟨⟨hm, hp, hrow⟩, rfl⟩)⟩
    refine ⟨_, rfl, rfl, _, rfl, iteI (fun c => ?_) (fun c => ?_)⟩
    · refine ⟨_, rfl, _, rfl, _, rfl, a, ns, k, 8, 2, rfl, hS1, by omega, by decide, by decide, ?_⟩
      rw [show lsome ns k 8 2 = (x2 : Int) from ex2]
      exact ⟨_, rfl, small_sz (by simp), fun t ht => one (.load p x2 m) _ t ht rfl (.inr ⟨⟨hm, hp, hx2⟩, rfl⟩)⟩
    refine ⟨_, rfl, rfl, _, rfl, iteI (fun c => ?_) (fun c => ?_)⟩
    · have b9 := lsome_b ns k 8 (many := 9) (by decide)
      exact ⟨_, rfl, _, rfl, _, rfl, _, rfl, a, ns, k, 8, 9, rfl, hS1, by omega, by decide, by decide, _, _, rfl, rfl, _, rfl, _, rfl, a, ns, k, rfl, hS1, by omega, _, rfl, small_sz (by simp), fun t ht => one (.shift p row (lsome ns k 8 9 - 4) (lnum ns k) m) _ t ht rfl (.inr ⟨⟨hm, hp, hrow, lnum_kr ns k, by show -100 < lsome ns k 8 9 - 4; omega, by show lsome ns k 8 9 - 4 < 100; omega⟩, rfl⟩)⟩
    refine ⟨_, rfl, rfl, _, rfl, iteI (fun c => ?_) (fun c => ?_)⟩
    · exact ⟨_, rfl, _, rfl, _, rfl, _, rfl, small_sz (by simp), fun t ht => one (.gather p q row m) _ t ht rfl (.inr ⟨⟨hm, hp, hq, hrow⟩, rfl⟩)⟩
    refine ⟨_, rfl, _, _, rfl, rfl, _, rfl, iteD (fun c => ?_) (fun c => ?_)⟩
    · refine ⟨small_sz (by simp), fun l2 hl2 => ?_⟩
      obtain ⟨sv, hsv, esv⟩ := lst_at (xs := ([.str "+", .str "-", .str "*", .str "/", .str "rest", .str "least", .str "most", .str "<", .str "=", .str "&", .str "|", .str "^"] : List V)) (i := lsome ns k 8 12) b12.1 b12.2
      obtain ⟨sg, hsg, rfl⟩ : ∃ sg : Str, (PyData.str sg).canLay0 = true ∧ sv = .str sg := by
        simp only [List.mem_cons, List.not_mem_nil, or_false] at hsv
        rcases hsv with h | h | h | h | h | h | h | h | h | h | h | h <;> exact ⟨_, by decide +kernel, h⟩
      have s2 : Same H1 (upd H1 l2 (.lst [.str "+", .str "-", .str "*", .str "/", .str "rest", .str "least", .str "most", .str "<", .str "=", .str "&", .str "|", .str "^"])) := same_new hl2
      have h2 : upd H1 l2 (.lst [.str "+", .str "-", .str "*", .str "/", .str "rest", .str "least", .str "most", .str "<", .str "=", .str "&", .str "|", .str "^"]) l2 = some (.lst [.str "+", .str "-", .str "*", .str "/", .str "rest", .str "least", .str "most", .str "<", .str "=", .str "&", .str "|", .str "^"]) := upd_same
      have f2 : ∀ {x : Addr}, upd H1 l2 (.lst [.str "+", .str "-", .str "*", .str "/", .str "rest", .str "least", .str "most", .str "<", .str "=", .str "&", .str "|", .str "^"]) x = none → H1 x = none := fun h => s2.free h
      generalize upd H1 l2 (.lst [.str "+", .str "-", .str "*", .str "/", .str "rest", .str "least", .str "most", .str "<", .str "=", .str "&", .str "|", .str "^"]) = H2 at s2 h2 f2 ⊢
      exact ⟨_, rfl, _, rfl, _, rfl, _, rfl, a, ns, k, 8, 12, rfl, (s2.seq hS1), by omega, by decide, by decide, _, _, _, _, rfl, rfl, SqL.of h2, esv, _, rfl, _, rfl, _, rfl, small_sz (by simp), fun t ht => fin (.op p sg q r m) t _ (f2 ht) (s2.trans (same_new ht)) upd_same (.inr ⟨⟨hm, hp, hq, hr2, hsg⟩, rfl⟩)⟩
    refine ⟨_, rfl, _, _, rfl, rfl, _, rfl, iteD (fun c => ?_) (fun c => ?_)⟩
    · refine ⟨_, rfl, _, rfl, _, rfl, _, rfl, _, rfl, _, rfl, _, rfl, ka, _, rfl, .inl (s1.seq hK), a, ns, k, 8, _, rfl, hS1, by omega, by decide, by rw [hlen]; omega, ?_⟩
      rw [hlen]
      exact ⟨_, _, _, _, rfl, rfl, s1.seq hK, em8, _, rfl, small_sz (by simp), fun t ht => one (.pick p q r m8 m) _ t ht rfl (.inr ⟨⟨hm, hp, hq, hr2, hm8⟩, rfl⟩)⟩
    refine ⟨_, rfl, rfl, _, rfl, iteI (fun c => ?_) (fun c => ?_)⟩
    · skip
      refine ⟨_, rfl, _, rfl, _, rfl, small_sz (by simp), fun t1 ht1 => ?_⟩
      have sA : Same H1 (upd H1 t1 (.tup [.str "copy", .int p, .int q, .int m])) := same_new ht1
      have hA : upd H1 t1 (.tup [.str "copy", .int p, .int q, .int m]) t1 = some (.tup [.str "copy", .int p, .int q, .int m]) := upd_same
      have fA : ∀ {x : Addr}, upd H1 t1 (.tup [.str "copy", .int p, .int q, .int m]) x = none → H1 x = none := fun h => sA.free h
      generalize upd H1 t1 (.tup [.str "copy", .int p, .int q, .int m]) = HA at sA hA fA ⊢
      refine ⟨_, rfl, _, rfl, _, rfl, a, ns, k, 8, 50, rfl, (sA.seq hS1), by omega, by decide, by decide, _, rfl, small_sz (by simp), fun t2 ht2 => ?_⟩
      have sB : Same HA (upd HA t2 (.tup [.str "reach", .int p, .int (lsome ns k 8 50), .int m])) := same_new ht2
      have hB : upd HA t2 (.tup [.str "reach", .int p, .int (lsome ns k 8 50), .int m]) t2 = some (.tup [.str "reach", .int p, .int (lsome ns k 8 50), .int m]) := upd_same
      have fB : ∀ {x : Addr}, upd HA t2 (.tup [.str "reach", .int p, .int (lsome ns k 8 50), .int m]) x = none → HA x = none := fun h => sB.free h
      generalize upd HA t2 (.tup [.str "reach", .int p, .int (lsome ns k 8 50), .int m]) = HB at sB hB fB ⊢
      refine ⟨small_sz (by simp), fun l2 hl2 => ?_⟩
      have sC : Same HB (upd HB l2 (.lst [.ref t1, .ref t2])) := same_new hl2
      have hC : upd HB l2 (.lst [.ref t1, .ref t2]) l2 = some (.lst [.ref t1, .ref t2]) := upd_same
      generalize upd HB l2 (.lst [.ref t1, .ref t2]) = HC at sC hC ⊢
      have s3 := (sA.trans sB).trans sC
      refine ⟨_, rfl, _, rfl, a, ns, k, 10, 2, rfl, (s3.seq hS1), by omega, by decide, by decide, ?_⟩
      rw [show lsome ns k 10 2 = (y2 : Int) from ey2]
      have hx01 : y2 = 0 ∨ y2 = 1 := by omega
      rcases hx01 with h0 | h0
      · exact ⟨_, _, _, _, rfl, rfl, SqL.of hC, atI_of (j := 0) (by rw [h0]) rfl, fin (.copy p q m) t1 _ ht1 s3 (sC _ _ (sB _ _ hA)) (.inr ⟨⟨hm, hp, hq⟩, rfl⟩)⟩
      · exact ⟨_, _, _, _, rfl, rfl, SqL.of hC, atI_of (j := 1) (by rw [h0]) rfl, fin (.reach p (lsome ns k 8 50) m) t2 _ (fA ht2) s3 (sC _ _ hB) (.inr ⟨⟨hm, hp⟩, rfl⟩)⟩
    refine ⟨_, rfl, rfl, _, rfl, iteI (fun c => ?_) (fun c => ?_)⟩
    · exact ⟨_, rfl, _, rfl, _, rfl, small_sz (by simp), fun t ht => one (.bring p slot m) _ t ht rfl (.inr ⟨⟨hm, hp, hslot⟩, rfl⟩)⟩
    refine ⟨_, rfl, rfl, _, rfl, iteI (fun c => ?_) (fun c => ?_)⟩
    · exact ⟨_, rfl, _, rfl, _, rfl, small_sz (by simp), fun t ht => one (.save slot p m) _ t ht rfl (.inr ⟨⟨hm, hp, hslot⟩, rfl⟩)⟩
    refine ⟨_, rfl, rfl, _, rfl, iteI (fun c => ?_) (fun c => ?_)⟩
    · skip
      refine ⟨small_sz (by simp), fun t1 ht1 => ?_⟩
      have sA : Same H1 (upd H1 t1 (.tup [.str "trim"])) := same_new ht1
      have hA : upd H1 t1 (.tup [.str "trim"]) t1 = some (.tup [.str "trim"]) := upd_same
      have fA : ∀ {x : Addr}, upd H1 t1 (.tup [.str "trim"]) x = none → H1 x = none := fun h => sA.free h
      generalize upd H1 t1 (.tup [.str "trim"]) = HA at sA hA fA ⊢
      refine ⟨_, rfl, _, rfl, _, rfl, a, ns, k, rfl, sA.seq hS1, by omega, _, rfl, small_sz (by simp), fun t2 ht2 => ?_⟩
      have sB : Same HA (upd HA t2 (.tup [.str "number", .int p, .int (lnum ns k), .int m])) := same_new ht2
      have hB : upd HA t2 (.tup [.str "number", .int p, .int (lnum ns k), .int m]) t2 = some (.tup [.str "number", .int p, .int (lnum ns k), .int m]) := upd_same
      have fB : ∀ {x : Addr}, upd HA t2 (.tup [.str "number", .int p, .int (lnum ns k), .int m]) x = none → HA x = none := fun h => sB.free h
      generalize upd HA t2 (.tup [.str "number", .int p, .int (lnum ns k), .int m]) = HB at sB hB fB ⊢
      refine ⟨small_sz (by simp), fun l2 hl2 => ?_⟩
      have sC : Same HB (upd HB l2 (.lst [.ref t1, .ref t2])) := same_new hl2
      have hC : upd HB l2 (.lst [.ref t1, .ref t2]) l2 = some (.lst [.ref t1, .ref t2]) := upd_same
      generalize upd HB l2 (.lst [.ref t1, .ref t2]) = HC at sC hC ⊢
      have s3 := (sA.trans sB).trans sC
      refine ⟨_, rfl, _, rfl, a, ns, k, 8, 2, rfl, (s3.seq hS1), by omega, by decide, by decide, ?_⟩
      rw [show lsome ns k 8 2 = (x2 : Int) from ex2]
      have hx01 : x2 = 0 ∨ x2 = 1 := by omega
      rcases hx01 with h0 | h0
      · exact ⟨_, _, _, _, rfl, rfl, SqL.of hC, atI_of (j := 0) (by rw [h0]) rfl, fin .trim t1 _ ht1 s3 (sC _ _ (sB _ _ hA)) (.inl rfl)⟩
      · exact ⟨_, _, _, _, rfl, rfl, SqL.of hC, atI_of (j := 1) (by rw [h0]) rfl, fin (.number p (lnum ns k) m) t2 _ (fA ht2) s3 (sC _ _ hB) (.inr ⟨⟨hm, hp, lnum_kr ns k⟩, rfl⟩)⟩
    refine ⟨small_sz (by simp), fun l2 hl2 => ?_⟩
    have s2 : Same H1 (upd H1 l2 (.lst [.str "choose", .str "other"])) := same_new hl2
    have h2 : upd H1 l2 (.lst [.str "choose", .str "other"]) l2 = some (.lst [.str "choose", .str "other"]) := upd_same
    have f2 : ∀ {x : Addr}, upd H1 l2 (.lst [.str "choose", .str "other"]) x = none → H1 x = none := fun h => s2.free h
    generalize upd H1 l2 (.lst [.str "choose", .str "other"]) = H2 at s2 h2 f2 ⊢
    refine ⟨_, rfl, _, rfl, a, ns, k, 10, 2, rfl, (s2.seq hS1), by omega, by decide, by decide, ?_⟩
    rw [show lsome ns k 10 2 = (y2 : Int) from ey2]
    have e1 : (1 : Int) + (z15 : Int) = ((1 + z15 : Nat) : Int) := by push_cast; rfl
    have ch : ∀ s : Str, some (HO.tup [V.str s, V.int (1 + (z15 : Int)), V.int (p : Int), V.int (m : Int)]) = some (HO.tup [V.str s, V.int ((1 + z15 : Nat) : Int), V.int (p : Int), V.int (m : Int)]) := fun s => by rw [e1]
    have hx01 : y2 = 0 ∨ y2 = 1 := by omega
    rcases hx01 with h0 | h0
    · refine ⟨_, _, _, _, rfl, rfl, SqL.of h2, atI_of (j := 0) (by rw [h0]) rfl, _, rfl, _, rfl, a, ns, k, 8, 15, rfl, (s2.seq hS1), by omega, by decide, by decide, ?_⟩
      rw [show lsome ns k 8 15 = (z15 : Int) from ez15]
      refine ⟨_, _, rfl, rfl, ?_⟩
      exact ⟨_, rfl, _, rfl, small_sz (by simp), fun t ht => fin (.choose (1 + z15) p m) t _ (f2 ht) (s2.trans (same_new ht)) (by rw [upd_same]; exact ch "choose") (.inr ⟨⟨hm, hp, by omega⟩, rfl⟩)⟩
    · refine ⟨_, _, _, _, rfl, rfl, SqL.of h2, atI_of (j := 1) (by rw [h0]) rfl, _, rfl, _, rfl, a, ns, k, 8, 15, rfl, (s2.seq hS1), by omega, by decide, by decide, ?_⟩
      rw [show lsome ns k 8 15 = (z15 : Int) from ez15]
      refine ⟨_, _, rfl, rfl, ?_⟩
      exact ⟨_, rfl, _, rfl, small_sz (by simp), fun t ht => fin (.other (1 + z15) p m) t _ (f2 ht) (s2.trans (same_new ht)) (by rw [upd_same]; exact ch "other") (.inr ⟨⟨hm, hp, by omega⟩, rfl⟩)⟩
theorem cal__law_step {P : Program} {w : World} {K : PySem.W.Frag} {mg : Str → Option Value} {base : Heap} (T : Txt w K mg) : Cal P w K mg base 4 "_law_step" ["_law_script", "_law_k", "_law_seats", "_law_masks"] (sp__law_step K) := ⟨_, _, ok__law_step T, T.g__law_step, T.f__law_step.kp, T.f__law_step.bindsN (ps := ["_law_script", "_law_k", "_law_seats", "_law_masks"]) fun _ _ _ _ _ _ us hl => match us, hl with | [_, _, _, _], _ => rfl⟩
end Rb
end

section
set_option Elab.async false
set_option linter.all false
set_option maxRecDepth 100000
set_option maxHeartbeats 4000000
namespace Rb
open PySem PySem.Spec PyProof.Rows L2

/-- a step with its row turned -/
def Stp.turn (f : Nat → Nat) : Stp → Stp
  | .load p row m => .load p (f row) m
  | .spread p row m => .spread p (f row) m
  | .shift p row b o m => .shift p (f row) b o m
  | .gather p q row m => .gather p q (f row) m
  | .store row p m => .store (f row) p m
  | .put row q p m => .put (f row) q p m
  | .fold row s p m => .fold (f row) s p m
  | .running row s p m => .running (f row) s p m
  | st => st
def Stp.row7 : Stp → Prop
  | .load _ row _ => row < 7
  | .spread _ row _ => row < 7
  | .shift _ row _ _ _ => row < 7
  | .gather _ _ row _ => row < 7
  | .store row _ _ => row < 7
  | .put row _ _ _ => row < 7
  | .fold row _ _ _ => row < 7
  | .running row _ _ _ => row < 7
  | _ => True
theorem small_sz_cat {xs ys : List V} (h : xs.length + ys.length ≤ 100 := by simp) : xs.length + ys.length ≤ sizeLine := sz_le (Nat.le_trans h (by decide))
def sp__law_turned (K : PySem.W.Frag) : Sp := fun vs H Q _ => ∃ (sa ra : Addr) (st : Stp) (fr : Nat → Nat) (t0 : Nat), vs = [.ref sa, .ref ra] ∧ H sa = some (.tup st.vals) ∧ SqL K H ra ((List.range 7).map fun r => V.int (fr r : Int)) ∧ st.row7 ∧
  ∀ (p : Addr) H', Same H H' → (p = sa ∧ st.turn fr = st ∨ H' p = some (.tup (st.turn fr).vals)) → Q (.ref p) H'
theorem sc__law_turned : FnScope ["_law_step_here", "_law_rows"] ["_law_step_here", "_law_rows"] (defScope s__law_turned) := ⟨rfl, rfl, rfl, by decide +kernel, rfl, by decide +kernel, by decide +kernel⟩
theorem ok__law_turned {P : Program} {w : World} {K : PySem.W.Frag} {mg : Str → Option Value} {base : Heap} (T : Txt w K mg) : FnOk P w K mg base CX0 1 (ad__law_turned K) (fdOf K (ad__law_turned K)) ["_law_step_here", "_law_rows"] (sp__law_turned K) := by
  refine T.f__law_turned.ok sc__law_turned (fun vs H Q E h => ?_) (fun cdv A outer s H vs Q E hr h => ?_)
  · obtain ⟨_, _, _, _, _, rfl, _⟩ := h
    rfl
  · have hu := hu_of hr
    have nd := sc__law_turned.nd
    refine ⟨_, PSs.nox ((pss_cons (ps_if (pt_cmpR op_in_seq (pe_ix ix_tup (pv 0) pe_int (fun _ _ => rfl)) (pe_tup (pa_cons pe_str (pa_cons pe_str (pa_cons pe_str pa_nil)))) (by rfl))
      (pss_one (ps_ret (pe_op op_catT (pe_tup (pa_cons (pe_ix ix_tup (pv 0) pe_int (fun _ _ => rfl)) (pa_cons (pe_ix ix_tup (pv 0) pe_int (fun _ _ => rfl)) (pa_cons (pe_ix ix_list (pv 1) (pe_ix ix_tup (pv 0) pe_int (fun _ _ => rfl)) (fun _ _ => rfl)) pa_nil)))) (pe_slice sl_tup (pv 0) (po_some pe_int) po_none))))
      pss_nil)
      (pss_cons (ps_if (pt_cmpR op_eq (pe_ix ix_tup (pv 0) pe_int (fun _ _ => rfl)) pe_str (nomark _))
      (pss_one (ps_ret (pe_tup (pa_cons (pe_ix ix_tup (pv 0) pe_int (fun _ _ => rfl)) (pa_cons (pe_ix ix_tup (pv 0) pe_int (fun _ _ => rfl)) (pa_cons (pe_ix ix_tup (pv 0) pe_int (fun _ _ => rfl)) (pa_cons (pe_ix ix_list (pv 1) (pe_ix ix_tup (pv 0) pe_int (fun _ _ => rfl)) (fun _ _ => rfl)) (pa_cons (pe_ix ix_tup (pv 0) pe_int (fun _ _ => rfl)) pa_nil))))))))
      pss_nil)
      (pss_cons (ps_if (pt_cmpR op_in_seq (pe_ix ix_tup (pv 0) pe_int (fun _ _ => rfl)) (pe_tup (pa_cons pe_str (pa_cons pe_str (pa_cons pe_str (pa_cons pe_str pa_nil))))) (by rfl))
      (pss_one (ps_ret (pe_op op_catT (pe_tup (pa_cons (pe_ix ix_tup (pv 0) pe_int (fun _ _ => rfl)) (pa_cons (pe_ix ix_list (pv 1) (pe_ix ix_tup (pv 0) pe_int (fun _ _ => rfl)) (fun _ _ => rfl)) pa_nil))) (pe_slice sl_tup (pv 0) (po_some pe_int) po_none))))
      pss_nil)
      (pss_one (ps_ret (pv 0))))))), ?_⟩
    obtain ⟨sa, ra, st, fr, t0, rfl, hS, hR, hrow, kQ⟩ := h
    cases st with
    | number p n md =>
      refine ⟨_, rfl, _, _, _, _, rfl, rfl, SqT.of hS, atI_of (j := 0) rfl rfl, inTup (by decide) ⟨rfl, rfl⟩ fun H1 s1 => ⟨_, rfl, inF (b := "number") rfl (by decide +kernel) ?_⟩⟩
      have hS1 := s1 _ _ hS
      have hR1 := s1.seq hR
      refine ⟨_, rfl, _, _, _, _, rfl, rfl, SqT.of hS1, atI_of (j := 0) rfl rfl, rfl, _, rfl, iteDF (wne (b := "number") rfl (by decide +kernel)) ?_⟩
      refine ⟨_, rfl, _, _, _, _, rfl, rfl, SqT.of hS1, atI_of (j := 0) rfl rfl, inTup (by decide) ⟨rfl, rfl⟩ fun H2 s2 => ⟨_, rfl, inF (b := "number") rfl (by decide +kernel) ?_⟩⟩
      have hS2 := s2 _ _ hS1
      have hR2 := s2.seq hR1
      exact ⟨_, rfl, kQ sa H2 (s1.trans s2) (.inl ⟨rfl, rfl⟩)⟩
    | here p md =>
      refine ⟨_, rfl, _, _, _, _, rfl, rfl, SqT.of hS, atI_of (j := 0) rfl rfl, inTup (by decide) ⟨rfl, rfl⟩ fun H1 s1 => ⟨_, rfl, inF (b := "here") rfl (by decide +kernel) ?_⟩⟩
      have hS1 := s1 _ _ hS
      have hR1 := s1.seq hR
      refine ⟨_, rfl, _, _, _, _, rfl, rfl, SqT.of hS1, atI_of (j := 0) rfl rfl, rfl, _, rfl, iteDF (wne (b := "here") rfl (by decide +kernel)) ?_⟩
      refine ⟨_, rfl, _, _, _, _, rfl, rfl, SqT.of hS1, atI_of (j := 0) rfl rfl, inTup (by decide) ⟨rfl, rfl⟩ fun H2 s2 => ⟨_, rfl, inF (b := "here") rfl (by decide +kernel) ?_⟩⟩
      have hS2 := s2 _ _ hS1
      have hR2 := s2.seq hR1
      exact ⟨_, rfl, kQ sa H2 (s1.trans s2) (.inl ⟨rfl, rfl⟩)⟩
    | load p row md =>
      refine ⟨_, rfl, _, _, _, _, rfl, rfl, SqT.of hS, atI_of (j := 0) rfl rfl, inTup (by decide) ⟨rfl, rfl⟩ fun H1 s1 => ⟨_, rfl, inT (b := "load") rfl (by decide +kernel) ?_⟩⟩
      have hS1 := s1 _ _ hS
      have hR1 := s1.seq hR
      refine ⟨_, rfl, _, _, _, _, rfl, rfl, SqT.of hS1, atI_of (j := 0) rfl rfl, _, rfl, _, _, _, _, rfl, rfl, SqT.of hS1, atI_of (j := 1) rfl rfl, _, rfl, _, rfl, _, _, _, _, rfl, rfl, SqT.of hS1, atI_of (j := 2) rfl rfl, _, _, _, _, rfl, rfl, hR1, atI_of rfl (rm_get hrow), small_sz (by simp), fun t1 ht1 => ?_⟩
      have sA := same_new (o := .tup [.str "load", .int p, .int (fr row)]) ht1
      have hcut : cutV (Stp.load p row md).vals (some 3) none = [.int md] := rfl
      refine ⟨_, rfl, _, rfl, sa, _, rfl, SqT.of (sA _ _ hS1), by show ¬ (HT.sIx 4 0 (some 3) = 0 ∧ HT.sIx 4 4 none = 4); decide +kernel, fun t2 ht2 => ?_⟩
      rw [hcut]
      have sB := sA.trans (same_new (o := .tup [.int md]) ht2)
      refine ⟨_, t2, _, _, rfl, rfl, SqT.of (same_new ht2 _ _ upd_same), SqT.of upd_same, by simp, small_sz_cat, fun z => (by cases z), fun _ t3 ht3 => kQ t3 _ ((s1).trans (sB.trans (same_new ht3))) (.inr ?_)⟩
      exact upd_same
    | spread p row md =>
      refine ⟨_, rfl, _, _, _, _, rfl, rfl, SqT.of hS, atI_of (j := 0) rfl rfl, inTup (by decide) ⟨rfl, rfl⟩ fun H1 s1 => ⟨_, rfl, inT (b := "spread") rfl (by decide +kernel) ?_⟩⟩
      have hS1 := s1 _ _ hS
      have hR1 := s1.seq hR
      refine ⟨_, rfl, _, _, _, _, rfl, rfl, SqT.of hS1, atI_of (j := 0) rfl rfl, _, rfl, _, _, _, _, rfl, rfl, SqT.of hS1, atI_of (j := 1) rfl rfl, _, rfl, _, rfl, _, _, _, _, rfl, rfl, SqT.of hS1, atI_of (j := 2) rfl rfl, _, _, _, _, rfl, rfl, hR1, atI_of rfl (rm_get hrow), small_sz (by simp), fun t1 ht1 => ?_⟩
      have sA := same_new (o := .tup [.str "spread", .int p, .int (fr row)]) ht1
      have hcut : cutV (Stp.spread p row md).vals (some 3) none = [.int md] := rfl
      refine ⟨_, rfl, _, rfl, sa, _, rfl, SqT.of (sA _ _ hS1), by show ¬ (HT.sIx 4 0 (some 3) = 0 ∧ HT.sIx 4 4 none = 4); decide +kernel, fun t2 ht2 => ?_⟩
      rw [hcut]
      have sB := sA.trans (same_new (o := .tup [.int md]) ht2)
      refine ⟨_, t2, _, _, rfl, rfl, SqT.of (same_new ht2 _ _ upd_same), SqT.of upd_same, by simp, small_sz_cat, fun z => (by cases z), fun _ t3 ht3 => kQ t3 _ ((s1).trans (sB.trans (same_new ht3))) (.inr ?_)⟩
      exact upd_same
    | shift p row b o md =>
      refine ⟨_, rfl, _, _, _, _, rfl, rfl, SqT.of hS, atI_of (j := 0) rfl rfl, inTup (by decide) ⟨rfl, rfl⟩ fun H1 s1 => ⟨_, rfl, inT (b := "shift") rfl (by decide +kernel) ?_⟩⟩
      have hS1 := s1 _ _ hS
      have hR1 := s1.seq hR
      refine ⟨_, rfl, _, _, _, _, rfl, rfl, SqT.of hS1, atI_of (j := 0) rfl rfl, _, rfl, _, _, _, _, rfl, rfl, SqT.of hS1, atI_of (j := 1) rfl rfl, _, rfl, _, rfl, _, _, _, _, rfl, rfl, SqT.of hS1, atI_of (j := 2) rfl rfl, _, _, _, _, rfl, rfl, hR1, atI_of rfl (rm_get hrow), small_sz (by simp), fun t1 ht1 => ?_⟩
      have sA := same_new (o := .tup [.str "shift", .int p, .int (fr row)]) ht1
      have hcut : cutV (Stp.shift p row b o md).vals (some 3) none = [.int b, .int o, .int md] := rfl
      refine ⟨_, rfl, _, rfl, sa, _, rfl, SqT.of (sA _ _ hS1), by show ¬ (HT.sIx 6 0 (some 3) = 0 ∧ HT.sIx 6 6 none = 6); decide +kernel, fun t2 ht2 => ?_⟩
      rw [hcut]
      have sB := sA.trans (same_new (o := .tup [.int b, .int o, .int md]) ht2)
      refine ⟨_, t2, _, _, rfl, rfl, SqT.of (same_new ht2 _ _ upd_same), SqT.of upd_same, by simp, small_sz_cat, fun z => (by cases z), fun _ t3 ht3 => kQ t3 _ ((s1).trans (sB.trans (same_new ht3))) (.inr ?_)⟩
      exact upd_same
    | gather p q row md =>
      refine ⟨_, rfl, _, _, _, _, rfl, rfl, SqT.of hS, atI_of (j := 0) rfl rfl, inTup (by decide) ⟨rfl, rfl⟩ fun H1 s1 => ⟨_, rfl, inF (b := "gather") rfl (by decide +kernel) ?_⟩⟩
      have hS1 := s1 _ _ hS
      have hR1 := s1.seq hR
      refine ⟨_, rfl, _, _, _, _, rfl, rfl, SqT.of hS1, atI_of (j := 0) rfl rfl, rfl, _, rfl, iteDT rfl ?_⟩
      exact ⟨_, rfl, _, _, _, _, rfl, rfl, SqT.of hS1, atI_of (j := 0) rfl rfl, _, rfl, _, _, _, _, rfl, rfl, SqT.of hS1, atI_of (j := 1) rfl rfl, _, rfl, _, _, _, _, rfl, rfl, SqT.of hS1, atI_of (j := 2) rfl rfl, _, rfl, _, rfl, _, _, _, _, rfl, rfl, SqT.of hS1, atI_of (j := 3) rfl rfl, _, _, _, _, rfl, rfl, hR1, atI_of rfl (rm_get hrow), _, rfl, _, _, _, _, rfl, rfl, SqT.of hS1, atI_of (j := 4) rfl rfl, small_sz (by simp), fun t1 ht1 => kQ t1 _ (s1.trans (same_new ht1)) (.inr upd_same)⟩
    | op p s q r md =>
      refine ⟨_, rfl, _, _, _, _, rfl, rfl, SqT.of hS, atI_of (j := 0) rfl rfl, inTup (by decide) ⟨rfl, rfl⟩ fun H1 s1 => ⟨_, rfl, inF (b := "op") rfl (by decide +kernel) ?_⟩⟩
      have hS1 := s1 _ _ hS
      have hR1 := s1.seq hR
      refine ⟨_, rfl, _, _, _, _, rfl, rfl, SqT.of hS1, atI_of (j := 0) rfl rfl, rfl, _, rfl, iteDF (wne (b := "op") rfl (by decide +kernel)) ?_⟩
      refine ⟨_, rfl, _, _, _, _, rfl, rfl, SqT.of hS1, atI_of (j := 0) rfl rfl, inTup (by decide) ⟨rfl, rfl⟩ fun H2 s2 => ⟨_, rfl, inF (b := "op") rfl (by decide +kernel) ?_⟩⟩
      have hS2 := s2 _ _ hS1
      have hR2 := s2.seq hR1
      exact ⟨_, rfl, kQ sa H2 (s1.trans s2) (.inl ⟨rfl, rfl⟩)⟩
    | pick p q r k md =>
      refine ⟨_, rfl, _, _, _, _, rfl, rfl, SqT.of hS, atI_of (j := 0) rfl rfl, inTup (by decide) ⟨rfl, rfl⟩ fun H1 s1 => ⟨_, rfl, inF (b := "pick") rfl (by decide +kernel) ?_⟩⟩
      have hS1 := s1 _ _ hS
      have hR1 := s1.seq hR
      refine ⟨_, rfl, _, _, _, _, rfl, rfl, SqT.of hS1, atI_of (j := 0) rfl rfl, rfl, _, rfl, iteDF (wne (b := "pick") rfl (by decide +kernel)) ?_⟩
      refine ⟨_, rfl, _, _, _, _, rfl, rfl, SqT.of hS1, atI_of (j := 0) rfl rfl, inTup (by decide) ⟨rfl, rfl⟩ fun H2 s2 => ⟨_, rfl, inF (b := "pick") rfl (by decide +kernel) ?_⟩⟩
      have hS2 := s2 _ _ hS1
      have hR2 := s2.seq hR1
      exact ⟨_, rfl, kQ sa H2 (s1.trans s2) (.inl ⟨rfl, rfl⟩)⟩
    | copy p q md =>
      refine ⟨_, rfl, _, _, _, _, rfl, rfl, SqT.of hS, atI_of (j := 0) rfl rfl, inTup (by decide) ⟨rfl, rfl⟩ fun H1 s1 => ⟨_, rfl, inF (b := "copy") rfl (by decide +kernel) ?_⟩⟩
      have hS1 := s1 _ _ hS
      have hR1 := s1.seq hR
      refine ⟨_, rfl, _, _, _, _, rfl, rfl, SqT.of hS1, atI_of (j := 0) rfl rfl, rfl, _, rfl, iteDF (wne (b := "copy") rfl (by decide +kernel)) ?_⟩
      refine ⟨_, rfl, _, _, _, _, rfl, rfl, SqT.of hS1, atI_of (j := 0) rfl rfl, inTup (by decide) ⟨rfl, rfl⟩ fun H2 s2 => ⟨_, rfl, inF (b := "copy") rfl (by decide +kernel) ?_⟩⟩
      have hS2 := s2 _ _ hS1
      have hR2 := s2.seq hR1
      exact ⟨_, rfl, kQ sa H2 (s1.trans s2) (.inl ⟨rfl, rfl⟩)⟩
    | bring p s md =>
      refine ⟨_, rfl, _, _, _, _, rfl, rfl, SqT.of hS, atI_of (j := 0) rfl rfl, inTup (by decide) ⟨rfl, rfl⟩ fun H1 s1 => ⟨_, rfl, inF (b := "bring") rfl (by decide +kernel) ?_⟩⟩
      have hS1 := s1 _ _ hS
      have hR1 := s1.seq hR
      refine ⟨_, rfl, _, _, _, _, rfl, rfl, SqT.of hS1, atI_of (j := 0) rfl rfl, rfl, _, rfl, iteDF (wne (b := "bring") rfl (by decide +kernel)) ?_⟩
      refine ⟨_, rfl, _, _, _, _, rfl, rfl, SqT.of hS1, atI_of (j := 0) rfl rfl, inTup (by decide) ⟨rfl, rfl⟩ fun H2 s2 => ⟨_, rfl, inF (b := "bring") rfl (by decide +kernel) ?_⟩⟩
      have hS2 := s2 _ _ hS1
      have hR2 := s2.seq hR1
      exact ⟨_, rfl, kQ sa H2 (s1.trans s2) (.inl ⟨rfl, rfl⟩)⟩
    | choose k p md =>
      refine ⟨_, rfl, _, _, _, _, rfl, rfl, SqT.of hS, atI_of (j := 0) rfl rfl, inTup (by decide) ⟨rfl, rfl⟩ fun H1 s1 => ⟨_, rfl, inF (b := "choose") rfl (by decide +kernel) ?_⟩⟩
      have hS1 := s1 _ _ hS
      have hR1 := s1.seq hR
      refine ⟨_, rfl, _, _, _, _, rfl, rfl, SqT.of hS1, atI_of (j := 0) rfl rfl, rfl, _, rfl, iteDF (wne (b := "choose") rfl (by decide +kernel)) ?_⟩
      refine ⟨_, rfl, _, _, _, _, rfl, rfl, SqT.of hS1, atI_of (j := 0) rfl rfl, inTup (by decide) ⟨rfl, rfl⟩ fun H2 s2 => ⟨_, rfl, inF (b := "choose") rfl (by decide +kernel) ?_⟩⟩
      have hS2 := s2 _ _ hS1
      have hR2 := s2.seq hR1
      exact ⟨_, rfl, kQ sa H2 (s1.trans s2) (.inl ⟨rfl, rfl⟩)⟩
    | other k p md =>
      refine ⟨_, rfl, _, _, _, _, rfl, rfl, SqT.of hS, atI_of (j := 0) rfl rfl, inTup (by decide) ⟨rfl, rfl⟩ fun H1 s1 => ⟨_, rfl, inF (b := "other") rfl (by decide +kernel) ?_⟩⟩
      have hS1 := s1 _ _ hS
      have hR1 := s1.seq hR
      refine ⟨_, rfl, _, _, _, _, rfl, rfl, SqT.of hS1, atI_of (j := 0) rfl rfl, rfl, _, rfl, iteDF (wne (b := "other") rfl (by decide +kernel)) ?_⟩
      refine ⟨_, rfl, _, _, _, _, rfl, rfl, SqT.of hS1, atI_of (j := 0) rfl rfl, inTup (by decide) ⟨rfl, rfl⟩ fun H2 s2 => ⟨_, rfl, inF (b := "other") rfl (by decide +kernel) ?_⟩⟩
      have hS2 := s2 _ _ hS1
      have hR2 := s2.seq hR1
      exact ⟨_, rfl, kQ sa H2 (s1.trans s2) (.inl ⟨rfl, rfl⟩)⟩
    | save s p md =>
      refine ⟨_, rfl, _, _, _, _, rfl, rfl, SqT.of hS, atI_of (j := 0) rfl rfl, inTup (by decide) ⟨rfl, rfl⟩ fun H1 s1 => ⟨_, rfl, inF (b := "save") rfl (by decide +kernel) ?_⟩⟩
      have hS1 := s1 _ _ hS
      have hR1 := s1.seq hR
      refine ⟨_, rfl, _, _, _, _, rfl, rfl, SqT.of hS1, atI_of (j := 0) rfl rfl, rfl, _, rfl, iteDF (wne (b := "save") rfl (by decide +kernel)) ?_⟩
      refine ⟨_, rfl, _, _, _, _, rfl, rfl, SqT.of hS1, atI_of (j := 0) rfl rfl, inTup (by decide) ⟨rfl, rfl⟩ fun H2 s2 => ⟨_, rfl, inF (b := "save") rfl (by decide +kernel) ?_⟩⟩
      have hS2 := s2 _ _ hS1
      have hR2 := s2.seq hR1
      exact ⟨_, rfl, kQ sa H2 (s1.trans s2) (.inl ⟨rfl, rfl⟩)⟩
    | reach p n md =>
      refine ⟨_, rfl, _, _, _, _, rfl, rfl, SqT.of hS, atI_of (j := 0) rfl rfl, inTup (by decide) ⟨rfl, rfl⟩ fun H1 s1 => ⟨_, rfl, inF (b := "reach") rfl (by decide +kernel) ?_⟩⟩
      have hS1 := s1 _ _ hS
      have hR1 := s1.seq hR
      refine ⟨_, rfl, _, _, _, _, rfl, rfl, SqT.of hS1, atI_of (j := 0) rfl rfl, rfl, _, rfl, iteDF (wne (b := "reach") rfl (by decide +kernel)) ?_⟩
      refine ⟨_, rfl, _, _, _, _, rfl, rfl, SqT.of hS1, atI_of (j := 0) rfl rfl, inTup (by decide) ⟨rfl, rfl⟩ fun H2 s2 => ⟨_, rfl, inF (b := "reach") rfl (by decide +kernel) ?_⟩⟩
      have hS2 := s2 _ _ hS1
      have hR2 := s2.seq hR1
      exact ⟨_, rfl, kQ sa H2 (s1.trans s2) (.inl ⟨rfl, rfl⟩)⟩
    | store row p md =>
      refine ⟨_, rfl, _, _, _, _, rfl, rfl, SqT.of hS, atI_of (j := 0) rfl rfl, inTup (by decide) ⟨rfl, rfl⟩ fun H1 s1 => ⟨_, rfl, inF (b := "store") rfl (by decide +kernel) ?_⟩⟩
      have hS1 := s1 _ _ hS
      have hR1 := s1.seq hR
      refine ⟨_, rfl, _, _, _, _, rfl, rfl, SqT.of hS1, atI_of (j := 0) rfl rfl, rfl, _, rfl, iteDF (wne (b := "store") rfl (by decide +kernel)) ?_⟩
      refine ⟨_, rfl, _, _, _, _, rfl, rfl, SqT.of hS1, atI_of (j := 0) rfl rfl, inTup (by decide) ⟨rfl, rfl⟩ fun H2 s2 => ⟨_, rfl, inT (b := "store") rfl (by decide +kernel) ?_⟩⟩
      have hS2 := s2 _ _ hS1
      have hR2 := s2.seq hR1
      refine ⟨_, rfl, _, _, _, _, rfl, rfl, SqT.of hS2, atI_of (j := 0) rfl rfl, _, rfl, _, rfl, _, _, _, _, rfl, rfl, SqT.of hS2, atI_of (j := 1) rfl rfl, _, _, _, _, rfl, rfl, hR2, atI_of rfl (rm_get hrow), small_sz (by simp), fun t1 ht1 => ?_⟩
      have sA := same_new (o := .tup [.str "store", .int (fr row)]) ht1
      have hcut : cutV (Stp.store row p md).vals (some 2) none = [.int p, .int md] := rfl
      refine ⟨_, rfl, _, rfl, sa, _, rfl, SqT.of (sA _ _ hS2), by show ¬ (HT.sIx 4 0 (some 2) = 0 ∧ HT.sIx 4 4 none = 4); decide +kernel, fun t2 ht2 => ?_⟩
      rw [hcut]
      have sB := sA.trans (same_new (o := .tup [.int p, .int md]) ht2)
      refine ⟨_, t2, _, _, rfl, rfl, SqT.of (same_new ht2 _ _ upd_same), SqT.of upd_same, by simp, small_sz_cat, fun z => (by cases z), fun _ t3 ht3 => kQ t3 _ ((s1.trans s2).trans (sB.trans (same_new ht3))) (.inr ?_)⟩
      exact upd_same
    | put row q p md =>
      refine ⟨_, rfl, _, _, _, _, rfl, rfl, SqT.of hS, atI_of (j := 0) rfl rfl, inTup (by decide) ⟨rfl, rfl⟩ fun H1 s1 => ⟨_, rfl, inF (b := "put") rfl (by decide +kernel) ?_⟩⟩
      have hS1 := s1 _ _ hS
      have hR1 := s1.seq hR
      refine ⟨_, rfl, _, _, _, _, rfl, rfl, SqT.of hS1, atI_of (j := 0) rfl rfl, rfl, _, rfl, iteDF (wne (b := "put") rfl (by decide +kernel)) ?_⟩
      refine ⟨_, rfl, _, _, _, _, rfl, rfl, SqT.of hS1, atI_of (j := 0) rfl rfl, inTup (by decide) ⟨rfl, rfl⟩ fun H2 s2 => ⟨_, rfl, inT (b := "put") rfl (by decide +kernel) ?_⟩⟩
      have hS2 := s2 _ _ hS1
      have hR2 := s2.seq hR1
      refine ⟨_, rfl, _, _, _, _, rfl, rfl, SqT.of hS2, atI_of (j := 0) rfl rfl, _, rfl, _, rfl, _, _, _, _, rfl, rfl, SqT.of hS2, atI_of (j := 1) rfl rfl, _, _, _, _, rfl, rfl, hR2, atI_of rfl (rm_get hrow), small_sz (by simp), fun t1 ht1 => ?_⟩
      have sA := same_new (o := .tup [.str "put", .int (fr row)]) ht1
      have hcut : cutV (Stp.put row q p md).vals (some 2) none = [.int q, .int p, .int md] := rfl
      refine ⟨_, rfl, _, rfl, sa, _, rfl, SqT.of (sA _ _ hS2), by show ¬ (HT.sIx 5 0 (some 2) = 0 ∧ HT.sIx 5 5 none = 5); decide +kernel, fun t2 ht2 => ?_⟩
      rw [hcut]
      have sB := sA.trans (same_new (o := .tup [.int q, .int p, .int md]) ht2)
      refine ⟨_, t2, _, _, rfl, rfl, SqT.of (same_new ht2 _ _ upd_same), SqT.of upd_same, by simp, small_sz_cat, fun z => (by cases z), fun _ t3 ht3 => kQ t3 _ ((s1.trans s2).trans (sB.trans (same_new ht3))) (.inr ?_)⟩
      exact upd_same
    | fold row f p md =>
      refine ⟨_, rfl, _, _, _, _, rfl, rfl, SqT.of hS, atI_of (j := 0) rfl rfl, inTup (by decide) ⟨rfl, rfl⟩ fun H1 s1 => ⟨_, rfl, inF (b := "fold") rfl (by decide +kernel) ?_⟩⟩
      have hS1 := s1 _ _ hS
      have hR1 := s1.seq hR
      refine ⟨_, rfl, _, _, _, _, rfl, rfl, SqT.of hS1, atI_of (j := 0) rfl rfl, rfl, _, rfl, iteDF (wne (b := "fold") rfl (by decide +kernel)) ?_⟩
      refine ⟨_, rfl, _, _, _, _, rfl, rfl, SqT.of hS1, atI_of (j := 0) rfl rfl, inTup (by decide) ⟨rfl, rfl⟩ fun H2 s2 => ⟨_, rfl, inT (b := "fold") rfl (by decide +kernel) ?_⟩⟩
      have hS2 := s2 _ _ hS1
      have hR2 := s2.seq hR1
      refine ⟨_, rfl, _, _, _, _, rfl, rfl, SqT.of hS2, atI_of (j := 0) rfl rfl, _, rfl, _, rfl, _, _, _, _, rfl, rfl, SqT.of hS2, atI_of (j := 1) rfl rfl, _, _, _, _, rfl, rfl, hR2, atI_of rfl (rm_get hrow), small_sz (by simp), fun t1 ht1 => ?_⟩
      have sA := same_new (o := .tup [.str "fold", .int (fr row)]) ht1
      have hcut : cutV (Stp.fold row f p md).vals (some 2) none = [.str f, .int p, .int md] := rfl
      refine ⟨_, rfl, _, rfl, sa, _, rfl, SqT.of (sA _ _ hS2), by show ¬ (HT.sIx 5 0 (some 2) = 0 ∧ HT.sIx 5 5 none = 5); decide +kernel, fun t2 ht2 => ?_⟩
      rw [hcut]
      have sB := sA.trans (same_new (o := .tup [.str f, .int p, .int md]) ht2)
      refine ⟨_, t2, _, _, rfl, rfl, SqT.of (same_new ht2 _ _ upd_same), SqT.of upd_same, by simp, small_sz_cat, fun z => (by cases z), fun _ t3 ht3 => kQ t3 _ ((s1.trans s2).trans (sB.trans (same_new ht3))) (.inr ?_)⟩
      exact upd_same
    | running row f p md =>
      refine ⟨_, rfl, _, _, _, _, rfl, rfl, SqT.of hS, atI_of (j := 0) rfl rfl, inTup (by decide) ⟨rfl, rfl⟩ fun H1 s1 => ⟨_, rfl, inF (b := "running") rfl (by decide +kernel) ?_⟩⟩
      have hS1 := s1 _ _ hS
      have hR1 := s1.seq hR
      refine ⟨_, rfl, _, _, _, _, rfl, rfl, SqT.of hS1, atI_of (j := 0) rfl rfl, rfl, _, rfl, iteDF (wne (b := "running") rfl (by decide +kernel)) ?_⟩
      refine ⟨_, rfl, _, _, _, _, rfl, rfl, SqT.of hS1, atI_of (j := 0) rfl rfl, inTup (by decide) ⟨rfl, rfl⟩ fun H2 s2 => ⟨_, rfl, inT (b := "running") rfl (by decide +kernel) ?_⟩⟩
      have hS2 := s2 _ _ hS1
      have hR2 := s2.seq hR1
      refine ⟨_, rfl, _, _, _, _, rfl, rfl, SqT.of hS2, atI_of (j := 0) rfl rfl, _, rfl, _, rfl, _, _, _, _, rfl, rfl, SqT.of hS2, atI_of (j := 1) rfl rfl, _, _, _, _, rfl, rfl, hR2, atI_of rfl (rm_get hrow), small_sz (by simp), fun t1 ht1 => ?_⟩
      have sA := same_new (o := .tup [.str "running", .int (fr row)]) ht1
      have hcut : cutV (Stp.running row f p md).vals (some 2) none = [.str f, .int p, .int md] := rfl
      refine ⟨_, rfl, _, rfl, sa, _, rfl, SqT.of (sA _ _ hS2), by show ¬ (HT.sIx 5 0 (some 2) = 0 ∧ HT.sIx 5 5 none = 5); decide +kernel, fun t2 ht2 => ?_⟩
      rw [hcut]
      have sB := sA.trans (same_new (o := .tup [.str f, .int p, .int md]) ht2)
      refine ⟨_, t2, _, _, rfl, rfl, SqT.of (same_new ht2 _ _ upd_same), SqT.of upd_same, by simp, small_sz_cat, fun z => (by cases z), fun _ t3 ht3 => kQ t3 _ ((s1.trans s2).trans (sB.trans (same_new ht3))) (.inr ?_)⟩
      exact upd_same
    | trim =>
      refine ⟨_, rfl, _, _, _, _, rfl, rfl, SqT.of hS, atI_of (j := 0) rfl rfl, inTup (by decide) ⟨rfl, rfl⟩ fun H1 s1 => ⟨_, rfl, inF (b := "trim") rfl (by decide +kernel) ?_⟩⟩
      have hS1 := s1 _ _ hS
      refine ⟨_, rfl, _, _, _, _, rfl, rfl, SqT.of hS1, atI_of (j := 0) rfl rfl, rfl, _, rfl, iteDF (wne (b := "trim") rfl (by decide +kernel)) ?_⟩
      refine ⟨_, rfl, _, _, _, _, rfl, rfl, SqT.of hS1, atI_of (j := 0) rfl rfl, inTup (by decide) ⟨rfl, rfl⟩ fun H2 s2 => ⟨_, rfl, inF (b := "trim") rfl (by decide +kernel) ?_⟩⟩
      exact ⟨_, rfl, kQ sa H2 (s1.trans s2) (.inl ⟨rfl, rfl⟩)⟩
    | stop n =>
      refine ⟨_, rfl, _, _, _, _, rfl, rfl, SqT.of hS, atI_of (j := 0) rfl rfl, inTup (by decide) ⟨rfl, rfl⟩ fun H1 s1 => ⟨_, rfl, inF (b := "stop") rfl (by decide +kernel) ?_⟩⟩
      have hS1 := s1 _ _ hS
      refine ⟨_, rfl, _, _, _, _, rfl, rfl, SqT.of hS1, atI_of (j := 0) rfl rfl, rfl, _, rfl, iteDF (wne (b := "stop") rfl (by decide +kernel)) ?_⟩
      refine ⟨_, rfl, _, _, _, _, rfl, rfl, SqT.of hS1, atI_of (j := 0) rfl rfl, inTup (by decide) ⟨rfl, rfl⟩ fun H2 s2 => ⟨_, rfl, inF (b := "stop") rfl (by decide +kernel) ?_⟩⟩
      exact ⟨_, rfl, kQ sa H2 (s1.trans s2) (.inl ⟨rfl, rfl⟩)⟩
    | next =>
      refine ⟨_, rfl, _, _, _, _, rfl, rfl, SqT.of hS, atI_of (j := 0) rfl rfl, inTup (by decide) ⟨rfl, rfl⟩ fun H1 s1 => ⟨_, rfl, inF (b := "next") rfl (by decide +kernel) ?_⟩⟩
      have hS1 := s1 _ _ hS
      refine ⟨_, rfl, _, _, _, _, rfl, rfl, SqT.of hS1, atI_of (j := 0) rfl rfl, rfl, _, rfl, iteDF (wne (b := "next") rfl (by decide +kernel)) ?_⟩
      refine ⟨_, rfl, _, _, _, _, rfl, rfl, SqT.of hS1, atI_of (j := 0) rfl rfl, inTup (by decide) ⟨rfl, rfl⟩ fun H2 s2 => ⟨_, rfl, inF (b := "next") rfl (by decide +kernel) ?_⟩⟩
      exact ⟨_, rfl, kQ sa H2 (s1.trans s2) (.inl ⟨rfl, rfl⟩)⟩
    | «begin» many g =>
      refine ⟨_, rfl, _, _, _, _, rfl, rfl, SqT.of hS, atI_of (j := 0) rfl rfl, inTup (by decide) ⟨rfl, rfl⟩ fun H1 s1 => ⟨_, rfl, inF (b := "begin") rfl (by decide +kernel) ?_⟩⟩
      have hS1 := s1 _ _ hS
      refine ⟨_, rfl, _, _, _, _, rfl, rfl, SqT.of hS1, atI_of (j := 0) rfl rfl, rfl, _, rfl, iteDF (wne (b := "begin") rfl (by decide +kernel)) ?_⟩
      refine ⟨_, rfl, _, _, _, _, rfl, rfl, SqT.of hS1, atI_of (j := 0) rfl rfl, inTup (by decide) ⟨rfl, rfl⟩ fun H2 s2 => ⟨_, rfl, inF (b := "begin") rfl (by decide +kernel) ?_⟩⟩
      exact ⟨_, rfl, kQ sa H2 (s1.trans s2) (.inl ⟨rfl, rfl⟩)⟩
theorem cal__law_turned {P : Program} {w : World} {K : PySem.W.Frag} {mg : Str → Option Value} {base : Heap} (T : Txt w K mg) : Cal P w K mg base 1 "_law_turned" ["_law_step_here", "_law_rows"] (sp__law_turned K) := ⟨_, _, ok__law_turned T, T.g__law_turned, T.f__law_turned.kp, T.f__law_turned.bindsN (ps := ["_law_step_here", "_law_rows"]) fun _ _ _ _ _ _ us hl => match us, hl with | [_, _], _ => rfl⟩
end Rb
end

section
set_option Elab.async false
set_option linter.all false
set_option maxRecDepth 100000
set_option maxHeartbeats 4000000
namespace Rb
open PySem PySem.Spec PyProof.Rows L2

def EndsOK (W : WS) (Rs Bs : List Stp) (W' : WS) : Prop :=
  ((Rs = [.trim] ∧ W' = W) ∨ (∃ (p m : Nat), Rs = [.reach p (W.ln 5 : Int) m, .trim] ∧ W.ok (.reach p (W.ln 5 : Int) m) ∧ W.laid (.reach p (W.ln 5 : Int) m) ∧ W' = W.played (.reach p (W.ln 5 : Int) m))) ∧
  ∃ (p0 m0 : Nat) (f1 : Str) (p1 m1 : Nat) (f2 : Str) (p2 m2 : Nat) (put : List Stp), Bs = [.store 3 p0 m0, .running 4 f1 p1 m1, .fold 6 f2 p2 m2] ++ put ∧ (∀ st ∈ Bs, W'.ok st) ∧
    (put = [] ∨ ∃ p4 p3 m3, put = [.put 5 p4 p3 m3] ∧ ∀ e ∈ W'.actL m3, 0 ≤ W'.num p4 e ∧ W'.num p4 e < (W'.ln 5 : Int))
theorem ks_getD {ks : List Nat} {i : Int} (h0 : 0 ≤ i) (h1 : i < (ks.length : Int)) : atI (ks.map fun (k : Nat) => V.int (k : Int)) i = some (.int ((ks.getD i.toNat 0 : Nat) : Int)) ∧ ks.getD i.toNat 0 ∈ ks := by
  have h2 : i.toNat < ks.length := by omega
  rw [List.getD_eq_getElem?_getD, List.getElem?_eq_getElem h2]
  refine ⟨atI_of (j := i.toNat) (by omega) ?_, List.getElem_mem h2⟩
  rw [List.getElem?_map, List.getElem?_eq_getElem h2]
  rfl
def foldsL : List Str := ["sum", "product", "least", "most", "both", "either", "odd", "chain", "capped"]
theorem foldsL_at {i : Int} (h0 : 0 ≤ i) (h1 : i < 9) : atI (foldsL.map V.str) i = some (.str (foldsL.getD i.toNat "sum")) ∧ Fold9 (foldsL.getD i.toNat "sum") := by
  have h3 : i.toNat = 0 ∨ i.toNat = 1 ∨ i.toNat = 2 ∨ i.toNat = 3 ∨ i.toNat = 4 ∨ i.toNat = 5 ∨ i.toNat = 6 ∨ i.toNat = 7 ∨ i.toNat = 8 := by omega
  have h4 : i = (i.toNat : Int) := by omega
  refine ⟨atI_of h4 ?_, ?_⟩
  · rcases h3 with h | h | h | h | h | h | h | h | h <;> rw [h] <;> rfl
  · rcases h3 with h | h | h | h | h | h | h | h | h <;> rw [h]
    · exact .inl rfl
    · exact .inr (.inl rfl)
    · exact .inr (.inr (.inl rfl))
    · exact .inr (.inr (.inr (.inl rfl)))
    · exact .inr (.inr (.inr (.inr (.inl rfl))))
    · exact .inr (.inr (.inr (.inr (.inr (.inl rfl)))))
    · exact .inr (.inr (.inr (.inr (.inr (.inr (.inl rfl))))))
    · exact .inr (.inr (.inr (.inr (.inr (.inr (.inr (.inl rfl)))))))
    · exact .inr (.inr (.inr (.inr (.inr (.inr (.inr (.inr rfl)))))))
theorem reach_in {W : WS} {p m : Nat} {n : Int} {e : Nat} (h : e ∈ (W.played (.reach p n m)).actL m) : 0 ≤ W.num p e ∧ W.num p e < n := by
  obtain ⟨h1, h2⟩ := mem_wact.mp h
  have h3 : (W.wm m e && (W.faF (.reach p n m) e).isNone) = true := h2
  rw [Bool.and_eq_true] at h3
  by_cases c : 0 ≤ W.num p e ∧ W.num p e < n
  · exact c
  · exfalso
    have hf : W.flf e (.reach p n m) = some ("outside" : Str) := if_neg c
    have h4 := h3.2
    unfold WS.faF at h4
    by_cases d : e ∈ W.actL m
    · rw [if_pos ⟨d, by rw [hf]; rfl⟩, hf] at h4
      cases h4
    · rw [if_neg (fun z => d z.1)] at h4
      refine d (mem_wact.mpr ⟨h1, ?_⟩)
      unfold WS.act
      rw [h3.1, h4]
      rfl
def sp__law_effects (K : PySem.W.Frag) : Sp := fun vs H Q _ => ∃ (H0 : Hp) (ad : Rw → Addr) (W : WS) (a : Addr) (ns : List Int) (t0 : Nat), vs = [.ref a, .ref (ad .wd), .int W.nse, .int (W.ln 5)] ∧ WA H0 ad W H ∧ SqL K H a (ns.map V.int) ∧ 0 < W.nse ∧
  ∀ (H0' : Hp) (ad' : Rw → Addr) (W' : WS) (R B : List (Addr × Stp)) (p la lb : Addr) (H' : Hp), Same H0 H0' → ad' .wd = ad .wd → ad' .pl = ad .pl → WA H0' ad' W' H' → (∀ q ∈ R ++ B, H0' q.1 = some (.tup q.2.vals)) → H0' p = some (.tup [.ref la, .ref lb]) → H0' la = some (.lst (R.map fun q => V.ref q.1)) → H0' lb = some (.lst (B.map fun q => V.ref q.1)) → EndsOK W (R.map (·.2)) (B.map (·.2)) W' → Q (.ref p) H'
theorem sc__law_effects : FnScope ["_law_script", "_law_world", "_law_seats", "_law_wide", "_law_masks", "_law_folds", "_law_p", "_law_m", "_law_picked", "_law_reach", "_law_steps_here", "_law_k"] ["_law_script", "_law_world", "_law_seats", "_law_wide"] (defScope s__law_effects) := ⟨rfl, rfl, rfl, by decide +kernel, rfl, by decide +kernel, by decide +kernel⟩
theorem ok__law_effects {P : Program} {w : World} {K : PySem.W.Frag} {mg : Str → Option Value} {base : Heap} (T : Txt w K mg) : FnOk P w K mg base CX0 5 (ad__law_effects K) (fdOf K (ad__law_effects K)) ["_law_script", "_law_world", "_law_seats", "_law_wide"] (sp__law_effects K) := by
  have C__law_faults := cal__law_faults (P := P) (base := base) T
  have C__law_some := cal__law_some (P := P) (base := base) T
  have C__law_reads_laid := cal__law_reads_laid (P := P) (base := base) T
  have C__law_played := cal__law_played (P := P) (base := base) T
  refine T.f__law_effects.ok sc__law_effects (fun vs H Q E h => ?_) (fun cdv A outer s H vs Q E hr h => ?_)
  · obtain ⟨_, _, _, _, _, _, rfl, _⟩ := h
    rfl
  · have hu := hu_of hr
    have nd := sc__law_effects.nd
    refine ⟨_, PSs.nox ((pss_cons (ps_set (i := 4) nd rfl (Or.inr rfl) (pe_callTy (call_listD rfl) rfl T.b_list (by decide +kernel) (pa_cons (pe_dget hu (pv 1) pe_str (fun _ _ => rfl)) pa_nil)))
      (pss_cons (ps_set (i := 5) nd rfl (Or.inr rfl) (pe_lst (pa_cons pe_str (pa_cons pe_str (pa_cons pe_str (pa_cons pe_str (pa_cons pe_str (pa_cons pe_str (pa_cons pe_str (pa_cons pe_str (pa_cons pe_str pa_nil)))))))))))
      (pss_cons (ps_setLc (i := 6) (own := [("_law_k", 11)]) (g := gName 11) rfl nd rfl rfl (sw_true rfl rfl rfl (by decide +kernel)) (pi_range1 rfl T.b_range (pa_cons pe_int pa_nil)) (blkOk_by (N := ["_law_script", "_law_world", "_law_seats", "_law_wide", "_law_masks", "_law_folds", "_law_p", "_law_m", "_law_picked", "_law_reach", "_law_steps_here", "_law_k"]) (sc := defScope s__law_effects) (by decide +kernel)) (fun _ _ _ _ _ => pg_name (i := 11) nd rfl (Or.inl rfl)) (fun _ _ _ _ _ => pts_nil) (fun _ _ _ _ _ => (pe_cl C__law_some (hr.mono (by decide)) (pa_cons (pv 0) (pa_cons pe_int (pa_cons (pv 11) (pa_cons (pv 2) pa_nil)))))))
      (pss_cons (ps_setLc (i := 7) (own := [("_law_k", 11)]) (g := gName 11) rfl nd rfl rfl (sw_true rfl rfl rfl (by decide +kernel)) (pi_range1 rfl T.b_range (pa_cons pe_int pa_nil)) (blkOk_by (N := ["_law_script", "_law_world", "_law_seats", "_law_wide", "_law_masks", "_law_folds", "_law_p", "_law_m", "_law_picked", "_law_reach", "_law_steps_here", "_law_k"]) (sc := defScope s__law_effects) (by decide +kernel)) (fun _ _ _ _ _ => pg_name (i := 11) nd rfl (Or.inl rfl)) (fun _ _ _ _ _ => pts_nil) (fun _ _ _ _ _ => (pe_ix (ixLK K) (pv 4) (pe_cl C__law_some (hr.mono (by decide)) (pa_cons (pv 0) (pa_cons pe_int (pa_cons (pv 11) (pa_cons (pe_callB (lenK K) rfl T.b_len PySem.boot_len (pa_cons (pv 4) pa_nil)) pa_nil))))) (fun _ _ => rfl))))
      (pss_cons (ps_setLc (i := 8) (own := [("_law_k", 11)]) (g := gName 11) rfl nd rfl rfl (sw_true rfl rfl rfl (by decide +kernel)) (pi_range1 rfl T.b_range (pa_cons pe_int pa_nil)) (blkOk_by (N := ["_law_script", "_law_world", "_law_seats", "_law_wide", "_law_masks", "_law_folds", "_law_p", "_law_m", "_law_picked", "_law_reach", "_law_steps_here", "_law_k"]) (sc := defScope s__law_effects) (by decide +kernel)) (fun _ _ _ _ _ => pg_name (i := 11) nd rfl (Or.inl rfl)) (fun _ _ _ _ _ => pts_nil) (fun _ _ _ _ _ => (pe_ix (ixLK K) (pv 5) (pe_cl C__law_some (hr.mono (by decide)) (pa_cons (pv 0) (pa_cons pe_int (pa_cons (pv 11) (pa_cons pe_int pa_nil))))) (fun _ _ => rfl))))
      (pss_cons (ps_set (i := 9) nd rfl (Or.inl rfl) (pe_tup (pa_cons pe_str (pa_cons (pe_ix ix_list (pv 6) pe_int (fun _ _ => rfl)) (pa_cons (pv 3) (pa_cons (pe_ix ix_list (pv 7) pe_int (fun _ _ => rfl)) pa_nil))))))
      (pss_cons (ps_set (i := 10) nd rfl (Or.inl rfl) (pe_lst (pa_cons (pe_tup (pa_cons pe_str (pa_cons pe_int (pa_cons (pe_ix ix_list (pv 6) pe_int (fun _ _ => rfl)) (pa_cons (pe_ix ix_list (pv 7) pe_int (fun _ _ => rfl)) pa_nil))))) (pa_cons (pe_tup (pa_cons pe_str (pa_cons pe_int (pa_cons (pe_ix ix_list (pv 8) pe_int (fun _ _ => rfl)) (pa_cons (pe_ix ix_list (pv 6) pe_int (fun _ _ => rfl)) (pa_cons (pe_ix ix_list (pv 7) pe_int (fun _ _ => rfl)) pa_nil)))))) (pa_cons (pe_tup (pa_cons pe_str (pa_cons pe_int (pa_cons (pe_ix ix_list (pv 8) pe_int (fun _ _ => rfl)) (pa_cons (pe_ix ix_list (pv 6) pe_int (fun _ _ => rfl)) (pa_cons (pe_ix ix_list (pv 7) pe_int (fun _ _ => rfl)) pa_nil)))))) pa_nil)))))
      (pss_cons (ps_if (PW.pt (pw_and (pt_val (pe_cl C__law_reads_laid (hr.mono (by decide)) (pa_cons (pv 1) (pa_cons (pv 9) pa_nil)))) (pw_and1 (PW.pt (pw_or (pt_cmpR op_eq (pe_cl C__law_some (hr.mono (by decide)) (pa_cons (pv 0) (pa_cons pe_int (pa_cons pe_int (pa_cons pe_int pa_nil))))) pe_int (nomark _)) (pw_or1 (pt_not (pt_val (pe_cl C__law_faults (hr.mono (by decide)) (pa_cons (pv 1) (pa_cons (pv 9) (pa_cons (pe_lst pa_nil) pa_nil))))))))))))
      (pss_cons (ps_expr (pe_cl C__law_played (hr.mono (by decide)) (pa_cons (pv 1) (pa_cons (pv 9) (pa_cons (pe_lst pa_nil) pa_nil)))))
      (pss_cons (ps_if (pt_val (pe_cl C__law_reads_laid (hr.mono (by decide)) (pa_cons (pv 1) (pa_cons (pe_tup (pa_cons pe_str (pa_cons pe_int (pa_cons (pe_ix ix_list (pv 6) pe_int (fun _ _ => rfl)) (pa_cons (pe_ix ix_list (pv 6) pe_int (fun _ _ => rfl)) (pa_cons (pe_ix ix_list (pv 7) pe_int (fun _ _ => rfl)) pa_nil)))))) pa_nil))))
      (pss_one (ps_ret (pe_tup (pa_cons (pe_lst (pa_cons (pv 9) (pa_cons (pe_tup (pa_cons pe_str pa_nil)) pa_nil))) (pa_cons (pe_op op_cat (pv 10) (pe_lst (pa_cons (pe_tup (pa_cons pe_str (pa_cons pe_int (pa_cons (pe_ix ix_list (pv 6) pe_int (fun _ _ => rfl)) (pa_cons (pe_ix ix_list (pv 6) pe_int (fun _ _ => rfl)) (pa_cons (pe_ix ix_list (pv 7) pe_int (fun _ _ => rfl)) pa_nil)))))) pa_nil))) pa_nil)))))
      pss_nil)
      (pss_one (ps_ret (pe_tup (pa_cons (pe_lst (pa_cons (pv 9) (pa_cons (pe_tup (pa_cons pe_str pa_nil)) pa_nil))) (pa_cons (pv 10) pa_nil)))))))
      pss_nil)
      (pss_one (ps_ret (pe_tup (pa_cons (pe_lst (pa_cons (pe_tup (pa_cons pe_str pa_nil)) pa_nil)) (pa_cons (pv 10) pa_nil)))))))))))))), ?_⟩
    obtain ⟨H0, ad, W, a, ns, t0, rfl, A, hS, hn, kQ⟩ := h
    have hkl : 0 < W.ks.length := List.length_pos_of_mem A.wf.k0
    refine ⟨_, rfl, _, _, rfl, A.d3, _, _, rfl, .inl (A.at_ .md rfl), fun l1 hl1 => ?_⟩
    rw [List.map_map]
    have hl1c : upd H l1 (.lst (W.ks.map fun (k : Nat) => V.int (k : Int))) l1 = some (.lst (W.ks.map fun (k : Nat) => V.int (k : Int))) := upd_same
    have s1 : Same H (upd H l1 (.lst (W.ks.map fun (k : Nat) => V.int (k : Int)))) := same_new hl1
    have nf1 : ∀ {x : Addr}, upd H l1 (.lst (W.ks.map fun (k : Nat) => V.int (k : Int))) x = none → H x = none := fun h => s1.free h
    have ek : (List.map ((fun kv : Key × V => kV kv.1) ∘ fun (k : Nat) => ((Sum.inl (k : Int) : Key), V.ref (ad (.mask k)))) W.ks) = W.ks.map fun (k : Nat) => V.int (k : Int) := rfl
    rw [ek]
    generalize upd H l1 (.lst (W.ks.map fun (k : Nat) => V.int (k : Int))) = H1 at s1 hl1c nf1 ⊢
    refine ⟨small_sz (by simp), fun l2 hl2 => ?_⟩
    have hl2c : upd H1 l2 (.lst (foldsL.map V.str)) l2 = some (.lst (foldsL.map V.str)) := upd_same
    have s2 : Same H1 (upd H1 l2 (.lst (foldsL.map V.str))) := same_new hl2
    have nf2 : ∀ {x : Addr}, upd H1 l2 (.lst (foldsL.map V.str)) x = none → H x = none := fun h => nf1 (s2.free h)
    have hl12 := s2 _ _ hl1c
    have s02 := s1.trans s2
    have efo : (HO.lst (foldsL.map V.str)) = HO.lst [.str "sum", .str "product", .str "least", .str "most", .str "both", .str "either", .str "odd", .str "chain", .str "capped"] := rfl
    rw [← efo]
    generalize upd H1 l2 (.lst (foldsL.map V.str)) = H2 at s2 hl2c nf2 hl12 s02 ⊢
    have bp : ∀ i : Nat, 0 ≤ lsome ns 7 i (W.nse : Int) ∧ lsome ns 7 i (W.nse : Int) < (W.nse : Int) := fun i => lsome_b ns 7 i (by omega)
    have bm : ∀ i : Nat, 0 ≤ lsome ns 6 i (W.ks.length : Int) ∧ lsome ns 6 i (W.ks.length : Int) < (W.ks.length : Int) := fun i => lsome_b ns 6 i (by omega)
    have bf : ∀ i : Nat, 0 ≤ lsome ns 5 i 9 ∧ lsome ns 5 i 9 < 9 := fun i => lsome_b ns 5 i (by decide)
    obtain ⟨P, hP⟩ : ∃ P : Nat → Nat, ∀ i, P i < W.nse ∧ lsome ns 7 i (W.nse : Int) = (P i : Int) := ⟨fun i => (lsome ns 7 i (W.nse : Int)).toNat, fun i => by have := bp i; show (lsome ns 7 i (W.nse : Int)).toNat < W.nse ∧ lsome ns 7 i (W.nse : Int) = ((lsome ns 7 i (W.nse : Int)).toNat : Int); omega⟩
    obtain ⟨M, hM⟩ : ∃ M : Nat → Nat, ∀ i, M i ∈ W.ks ∧ atI (W.ks.map fun (k : Nat) => V.int (k : Int)) (lsome ns 6 i (W.ks.length : Int)) = some (.int (M i : Int)) := ⟨fun i => W.ks.getD (lsome ns 6 i (W.ks.length : Int)).toNat 0, fun i => ⟨(ks_getD (bm i).1 (bm i).2).2, (ks_getD (bm i).1 (bm i).2).1⟩⟩
    obtain ⟨F, hF⟩ : ∃ F : Nat → Str, ∀ i, Fold9 (F i) ∧ atI (foldsL.map V.str) (lsome ns 5 i 9) = some (.str (F i)) := ⟨fun i => foldsL.getD (lsome ns 5 i 9).toNat "sum", fun i => ⟨(foldsL_at (bf i).1 (bf i).2).2, (foldsL_at (bf i).1 (bf i).2).1⟩⟩
    refine ⟨_, rfl, by decide, by decide, fun D1 hD1 => ?_⟩
    refine comp_range hD1 (n := 5) (fun i => V.int (P i : Int)) (by decide) (fun i H' hi sx Q' q => ?_) (fun H3 s3 h3 => ?_)
    · have e0 : (0 : Int) + (i : Int) = (i : Int) := Int.zero_add _
      rw [e0]
      refine ⟨_, rfl, _, rfl, _, rfl, a, ns, 7, i, W.nse, rfl, (s02.trans sx).seq hS, by decide, by omega, by omega, ?_⟩
      rw [(hP i).2]
      exact q _ (Same.refl _)
    refine ⟨_, rfl, by decide, by decide, fun D2 hD2 => ?_⟩
    have s03 := s02.trans s3
    refine comp_range hD2 (n := 4) (fun i => V.int (M i : Int)) (by decide) (fun i H' hi sx Q' q => ?_) (fun H4 s4 h4 => ?_)
    · have e0 : (0 : Int) + (i : Int) = (i : Int) := Int.zero_add _
      rw [e0]
      have hk := sx _ _ (s3 _ _ hl12)
      have hlen : ((W.ks.map fun (k : Nat) => V.int (k : Int)).length : Int) = (W.ks.length : Int) := by rw [List.length_map]
      refine ⟨_, rfl, _, rfl, _, rfl, _, rfl, l1, _, rfl, .inl (SqL.of hk), a, ns, 6, i, _, rfl, (s03.trans sx).seq hS, by decide, by omega, by rw [hlen]; omega, ?_⟩
      rw [hlen]
      exact ⟨_, _, _, _, rfl, rfl, SqL.of hk, (hM i).2, q _ (Same.refl _)⟩
    refine ⟨_, rfl, by decide, by decide, fun D3 hD3 => ?_⟩
    have s04 := s03.trans s4
    refine comp_range hD3 (n := 2) (fun i => V.str (F i)) (by decide) (fun i H' hi sx Q' q => ?_) (fun H5 s5 h5 => ?_)
    · have e0 : (0 : Int) + (i : Int) = (i : Int) := Int.zero_add _
      rw [e0]
      have hk := sx _ _ (s4 _ _ (s3 _ _ hl2c))
      exact ⟨_, rfl, _, rfl, _, rfl, a, ns, 5, i, 9, rfl, (s04.trans sx).seq hS, by decide, by omega, by decide, _, _, _, _, rfl, rfl, SqL.of hk, (hF i).2, q _ (Same.refl _)⟩
    have s05 := s04.trans s5
    have hp5 := s5 _ _ (s4 _ _ h3)
    have hm5 := s5 _ _ h4
    refine ⟨_, rfl, _, _, _, _, rfl, rfl, SqL.of hp5, atI_of (j := 4) rfl rfl, _, rfl, _, rfl, _, _, _, _, rfl, rfl, SqL.of hm5, atI_of (j := 3) rfl rfl, small_sz (by simp), fun tr htr => ?_⟩
    have cr : upd H5 tr (.tup [.str "reach", .int (P 4 : Int), .int (W.ln 5 : Int), .int (M 3 : Int)]) tr = some (.tup [.str "reach", .int (P 4 : Int), .int (W.ln 5 : Int), .int (M 3 : Int)]) := upd_same
    have ur : Same H5 (upd H5 tr (.tup [.str "reach", .int (P 4 : Int), .int (W.ln 5 : Int), .int (M 3 : Int)])) := same_new htr
    generalize upd H5 tr (.tup [.str "reach", .int (P 4 : Int), .int (W.ln 5 : Int), .int (M 3 : Int)]) = H6 at cr ur ⊢
    have hp6 := ur _ _ hp5
    have hm6 := ur _ _ hm5
    have hf6 := ur _ _ h5
    refine ⟨_, rfl, _, _, _, _, rfl, rfl, SqL.of hp6, atI_of (j := 0) rfl rfl, _, rfl, _, _, _, _, rfl, rfl, SqL.of hm6, atI_of (j := 0) rfl rfl, small_sz (by simp), fun ts hts => ?_⟩
    have cs : upd H6 ts (.tup [.str "store", .int 3, .int (P 0 : Int), .int (M 0 : Int)]) ts = some (.tup [.str "store", .int 3, .int (P 0 : Int), .int (M 0 : Int)]) := upd_same
    have us : Same H6 (upd H6 ts (.tup [.str "store", .int 3, .int (P 0 : Int), .int (M 0 : Int)])) := same_new hts
    generalize upd H6 ts (.tup [.str "store", .int 3, .int (P 0 : Int), .int (M 0 : Int)]) = H7 at cs us ⊢
    have hp7 := us _ _ hp6
    have hm7 := us _ _ hm6
    have hf7 := us _ _ hf6
    refine ⟨_, rfl, _, _, _, _, rfl, rfl, SqL.of hf7, atI_of (j := 0) rfl rfl, _, rfl, _, _, _, _, rfl, rfl, SqL.of hp7, atI_of (j := 1) rfl rfl, _, rfl, _, _, _, _, rfl, rfl, SqL.of hm7, atI_of (j := 1) rfl rfl, small_sz (by simp), fun tu htu => ?_⟩
    have cu : upd H7 tu (.tup [.str "running", .int 4, .str (F 0), .int (P 1 : Int), .int (M 1 : Int)]) tu = some (.tup [.str "running", .int 4, .str (F 0), .int (P 1 : Int), .int (M 1 : Int)]) := upd_same
    have uu : Same H7 (upd H7 tu (.tup [.str "running", .int 4, .str (F 0), .int (P 1 : Int), .int (M 1 : Int)])) := same_new htu
    generalize upd H7 tu (.tup [.str "running", .int 4, .str (F 0), .int (P 1 : Int), .int (M 1 : Int)]) = H8 at cu uu ⊢
    have hp8 := uu _ _ hp7
    have hm8 := uu _ _ hm7
    have hf8 := uu _ _ hf7
    refine ⟨_, rfl, _, _, _, _, rfl, rfl, SqL.of hf8, atI_of (j := 1) rfl rfl, _, rfl, _, _, _, _, rfl, rfl, SqL.of hp8, atI_of (j := 2) rfl rfl, _, rfl, _, _, _, _, rfl, rfl, SqL.of hm8, atI_of (j := 2) rfl rfl, small_sz (by simp), fun tf htf => ?_⟩
    have cf : upd H8 tf (.tup [.str "fold", .int 6, .str (F 1), .int (P 2 : Int), .int (M 2 : Int)]) tf = some (.tup [.str "fold", .int 6, .str (F 1), .int (P 2 : Int), .int (M 2 : Int)]) := upd_same
    have uf : Same H8 (upd H8 tf (.tup [.str "fold", .int 6, .str (F 1), .int (P 2 : Int), .int (M 2 : Int)])) := same_new htf
    generalize upd H8 tf (.tup [.str "fold", .int 6, .str (F 1), .int (P 2 : Int), .int (M 2 : Int)]) = H9 at cf uf ⊢
    refine ⟨small_sz (by simp), fun tl htl => ?_⟩
    have cl : upd H9 tl (.lst [.ref ts, .ref tu, .ref tf]) tl = some (.lst [.ref ts, .ref tu, .ref tf]) := upd_same
    have ul : Same H9 (upd H9 tl (.lst [.ref ts, .ref tu, .ref tf])) := same_new htl
    generalize upd H9 tl (.lst [.ref ts, .ref tu, .ref tf]) = HA at cl ul ⊢
    have sA : Same H HA := ((((s05.trans ur).trans us).trans uu).trans uf).trans ul
    have AA := A.sm sA
    have AR := AA.rebase
    have hr0 := AA.out_tup (ul _ _ (uf _ _ (uu _ _ (us _ _ cr))))
    have hs0 := AA.out_tup (ul _ _ (uf _ _ (uu _ _ cs)))
    have hu0 := AA.out_tup (ul _ _ (uf _ _ cu))
    have hf0 := AA.out_tup (ul _ _ cf)
    have hpA := ul _ _ (uf _ _ hp8)
    have hmA := ul _ _ (uf _ _ hm8)
    have htl0H : H tl = none := s05.free (ur.free (us.free (uu.free (uf.free htl))))
    have htl0 : offW ad W HA tl = some (.lst [.ref ts, .ref tu, .ref tf]) := by rw [offW_out (A.new_off htl0H)]; exact cl
    have nD1 : H D1 = none := s02.free hD1
    have nD2 : H D2 = none := s03.free hD2
    have nr : H tr = none := s05.free htr
    have ns_ : H ts = none := s05.free (ur.free hts)
    have nu : H tu = none := s05.free (ur.free (us.free htu))
    have nf : H tf = none := s05.free (ur.free (us.free (uu.free htf)))
    have okR : W.ok (.reach (P 4) (W.ln 5 : Int) (M 3)) := ⟨(hM 3).1, (hP 4).1⟩
    refine ⟨_, rfl, _, rfl, _, ad, W, tr, .reach (P 4) (W.ln 5 : Int) (M 3), rfl, AR, hr0, okR, fun b HB sB hb => ⟨_, rfl, ?_⟩⟩
    have AB := AR.sm sB
    cases b with
    | false =>
      refine ⟨small_sz (by simp), fun x1 hx1 => ?_⟩
      have cx1 : upd HB x1 (.tup [.str "trim"]) x1 = some (.tup [.str "trim"]) := upd_same
      have ux1 : Same HB (upd HB x1 (.tup [.str "trim"])) := same_new hx1
      generalize upd HB x1 (.tup [.str "trim"]) = HX1 at cx1 ux1 ⊢
      refine ⟨small_sz (by simp), fun x2 hx2 => ?_⟩
      have cx2 : upd HX1 x2 (.lst [.ref x1]) x2 = some (.lst [.ref x1]) := upd_same
      have ux2 : Same HX1 (upd HX1 x2 (.lst [.ref x1])) := same_new hx2
      generalize upd HX1 x2 (.lst [.ref x1]) = HX2 at cx2 ux2 ⊢
      refine ⟨_, rfl, small_sz (by simp), fun x3 hx3 => ?_⟩
      have cx3 : upd HX2 x3 (.tup [.ref x2, .ref tl]) x3 = some (.tup [.ref x2, .ref tl]) := upd_same
      have ux3 : Same HX2 (upd HX2 x3 (.tup [.ref x2, .ref tl])) := same_new hx3
      generalize upd HX2 x3 (.tup [.ref x2, .ref tl]) = HZ at cx3 ux3 ⊢
      have sX : Same HA HZ := ((sB.trans ux1).trans ux2).trans ux3
      have AZ := AA.sm sX
      have off : ∀ {x : Addr} {o : HO}, HA x = none → HZ x = some o → offW ad W HZ x = some o := fun hn h => by rw [offW_out (A.new_off (sA.free hn))]; exact h
      have offT : ∀ {x : Addr} {xs : List V}, HA x = some (.tup xs) → offW ad W HZ x = some (.tup xs) := fun h => AZ.out_tup (sX _ _ h)
      have htlZ : offW ad W HZ tl = some (.lst [.ref ts, .ref tu, .ref tf]) := by rw [offW_out (A.new_off htl0H)]; exact sX _ _ cl
      refine kQ (offW ad W HZ) ad W [(x1, .trim)] [(ts, .store 3 (P 0) (M 0)), (tu, .running 4 (F 0) (P 1) (M 1)), (tf, .fold 6 (F 1) (P 2) (M 2))] x3 x2 tl HZ AZ.back rfl rfl AZ.rebase (fun q hq => ?_) (off (sB.free (ux1.free (ux2.free hx3))) cx3) (off (sB.free (ux1.free hx2)) (ux3 _ _ cx2)) htlZ ?_
      · simp only [List.mem_append, List.mem_cons, List.not_mem_nil, or_false] at hq
        rcases hq with rfl | rfl | rfl | rfl
        · exact off (sB.free hx1) (ux3 _ _ (ux2 _ _ cx1))
        · exact offT (ul _ _ (uf _ _ (uu _ _ cs)))
        · exact offT (ul _ _ (uf _ _ cu))
        · exact offT (ul _ _ cf)
      · refine ⟨.inl ⟨rfl, rfl⟩, P 0, M 0, F 0, P 1, M 1, F 1, P 2, M 2, [], rfl, fun st hst => ?_, .inl rfl⟩
        simp only [List.map_cons, List.map_nil, List.mem_cons, List.not_mem_nil, or_false] at hst
        rcases hst with rfl | rfl | rfl
        · exact ⟨(hM 0).1, (hP 0).1, rfl⟩
        · exact ⟨(hM 1).1, (hP 1).1, rfl, (hF 0).1⟩
        · exact ⟨(hM 2).1, (hP 2).1, rfl, (hF 1).1⟩
    | true =>
      have laid := hb.mp rfl
      refine ⟨_, rfl, a, ns, 5, 3, 3, rfl, (sA.trans sB).seq hS, by decide, by decide, by decide, rfl, _, rfl, iteI (fun c => ?_) (fun c => ?_)⟩
      · skip
        refine ⟨_, rfl, _, rfl, nil_sz, fun t8 ht8 => ?_⟩
        have s8 : Same HB (upd HB t8 (.lst [])) := same_new ht8
        generalize upd HB t8 (.lst []) = H8' at s8 ⊢
        refine ⟨_, ad, W, tr, .reach (P 4) (W.ln 5 : Int) (M 3), .ref t8, rfl, AR.sm (sB.trans s8), hr0, okR, laid, rfl, fun z => (z rfl).elim, fun ad2 HP e1 e2 AP => ?_⟩
        have offA : ∀ {x : Addr} {o : HO}, H x = none → HA x = some o → HP x = some o := fun hn h => AP.same _ _ (by rw [offW_out (A.new_off hn)]; exact h)
        have hpP := offA nD1 hpA
        have hmP := offA nD2 hmA
        have htlP := offA htl0H cl
        generalize hW2 : W.played (.reach (P 4) (W.ln 5 : Int) (M 3)) = W2 at AP
        have nse2 : W2.nse = W.nse := by rw [← hW2]; rfl
        have ks2 : W2.ks = W.ks := by rw [← hW2]; rfl
        have okL : ∀ st ∈ [Stp.store 3 (P 0) (M 0), .running 4 (F 0) (P 1) (M 1), .fold 6 (F 1) (P 2) (M 2)], W2.ok st := fun st hst => by
          simp only [List.mem_cons, List.not_mem_nil, or_false] at hst
          rcases hst with rfl | rfl | rfl
          · exact ⟨by rw [ks2]; exact (hM 0).1, by rw [nse2]; exact (hP 0).1, rfl⟩
          · exact ⟨by rw [ks2]; exact (hM 1).1, by rw [nse2]; exact (hP 1).1, rfl, (hF 0).1⟩
          · exact ⟨by rw [ks2]; exact (hM 2).1, by rw [nse2]; exact (hP 2).1, rfl, (hF 1).1⟩
        have okP : W2.ok (.put 5 (P 4) (P 3) (M 3)) := ⟨by rw [ks2]; exact (hM 3).1, by rw [nse2]; exact (hP 3).1, by rw [nse2]; exact (hP 4).1, rfl⟩
        refine ⟨_, rfl, _, rfl, _, _, _, _, rfl, rfl, SqL.of hpP, atI_of (j := 4) rfl rfl, _, rfl, _, _, _, _, rfl, rfl, SqL.of hpP, atI_of (j := 3) rfl rfl, _, rfl, _, _, _, _, rfl, rfl, SqL.of hmP, atI_of (j := 3) rfl rfl, small_sz (by simp), fun tp htp => ?_⟩
        have ctp : upd HP tp (.tup [.str "put", .int 5, .int (P 4 : Int), .int (P 3 : Int), .int (M 3 : Int)]) tp = some (.tup [.str "put", .int 5, .int (P 4 : Int), .int (P 3 : Int), .int (M 3 : Int)]) := upd_same
        have utp : Same HP (upd HP tp (.tup [.str "put", .int 5, .int (P 4 : Int), .int (P 3 : Int), .int (M 3 : Int)])) := same_new htp
        generalize upd HP tp (.tup [.str "put", .int 5, .int (P 4 : Int), .int (P 3 : Int), .int (M 3 : Int)]) = HQ at ctp utp ⊢
        have AQ := (AP.sm utp).rebase
        have htp0 := (AP.sm utp).out_tup ctp
        have backQ := (AP.sm utp).back
        refine ⟨_, ad2, W2, tp, .put 5 (P 4) (P 3) (M 3), by rw [e1]; rfl, AQ, htp0, okP, fun b3 HR sR hb3 => ⟨_, rfl, ?_⟩⟩
        have AR2 : WA (offW ad W HA) ad2 W2 HR := (AP.sm utp).sm sR
        have s0R : Same (offW ad W HA) HR := AR2.same
        have hpR := sR _ _ (utp _ _ hpP)
        have hmR := sR _ _ (utp _ _ hmP)
        have htlR := sR _ _ (utp _ _ htlP)
        have freeH : ∀ {x : Addr}, HR x = none → HP x = none := fun h => utp.free (sR.free h)
        have newR : ∀ {x : Addr}, HR x = none → ∀ r, W2.rok r = true → x ≠ ad2 r := fun h => AR2.new_off h
        cases b3 with
        | false =>
          refine ⟨_, rfl, small_sz (by simp), fun x1 hx1 => ?_⟩
          have cx1 : upd HR x1 (.tup [.str "trim"]) x1 = some (.tup [.str "trim"]) := upd_same
          have ux1 : Same HR (upd HR x1 (.tup [.str "trim"])) := same_new hx1
          generalize upd HR x1 (.tup [.str "trim"]) = HX1 at cx1 ux1 ⊢
          refine ⟨small_sz (by simp), fun x2 hx2 => ?_⟩
          have cx2 : upd HX1 x2 (.lst [.ref tr, .ref x1]) x2 = some (.lst [.ref tr, .ref x1]) := upd_same
          have ux2 : Same HX1 (upd HX1 x2 (.lst [.ref tr, .ref x1])) := same_new hx2
          generalize upd HX1 x2 (.lst [.ref tr, .ref x1]) = HX2 at cx2 ux2 ⊢
          refine ⟨_, rfl, small_sz (by simp), fun x3 hx3 => ?_⟩
          have cx3 : upd HX2 x3 (.tup [.ref x2, .ref tl]) x3 = some (.tup [.ref x2, .ref tl]) := upd_same
          have ux3 : Same HX2 (upd HX2 x3 (.tup [.ref x2, .ref tl])) := same_new hx3
          generalize upd HX2 x3 (.tup [.ref x2, .ref tl]) = HZ at cx3 ux3 ⊢
          have sZ : Same HR HZ := (ux1.trans ux2).trans ux3
          have AZ := AR2.sm sZ
          have off : ∀ {x : Addr} {o : HO}, HR x = none → HZ x = some o → offW ad2 W2 HZ x = some o := fun hn h => by rw [offW_out (newR hn)]; exact h
          have s00 : Same (offW ad W HA) (offW ad2 W2 HZ) := AZ.back
          have offT : ∀ {x : Addr} {xs : List V}, H x = none → HA x = some (.tup xs) → offW ad2 W2 HZ x = some (.tup xs) := fun hn h => s00 _ _ (by rw [offW_out (A.new_off hn)]; exact h)
          have htlZ : offW ad2 W2 HZ tl = some (.lst [.ref ts, .ref tu, .ref tf]) := s00 _ _ htl0
          refine kQ (offW ad2 W2 HZ) ad2 W2 [(tr, .reach (P 4) (W.ln 5 : Int) (M 3)), (x1, .trim)] [(ts, .store 3 (P 0) (M 0)), (tu, .running 4 (F 0) (P 1) (M 1)), (tf, .fold 6 (F 1) (P 2) (M 2))] x3 x2 tl HZ (AA.back.trans s00) e1 e2 AZ.rebase (fun q hq => ?_) (off (ux1.free (ux2.free hx3)) cx3) (off (ux1.free hx2) (ux3 _ _ cx2)) htlZ ?_
          · simp only [List.mem_append, List.mem_cons, List.not_mem_nil, or_false] at hq
            rcases hq with (rfl | rfl) | rfl | rfl | rfl
            · exact offT nr (ul _ _ (uf _ _ (uu _ _ (us _ _ cr))))
            · exact off hx1 (ux3 _ _ (ux2 _ _ cx1))
            · exact offT ns_ (ul _ _ (uf _ _ (uu _ _ cs)))
            · exact offT nu (ul _ _ (uf _ _ cu))
            · exact offT nf (ul _ _ cf)
          · exact ⟨.inr ⟨P 4, M 3, rfl, okR, laid, hW2.symm⟩, P 0, M 0, F 0, P 1, M 1, F 1, P 2, M 2, [], rfl, okL, .inl rfl⟩
        | true =>
          refine ⟨_, rfl, small_sz (by simp), fun x1 hx1 => ?_⟩
          have cx1 : upd HR x1 (.tup [.str "trim"]) x1 = some (.tup [.str "trim"]) := upd_same
          have ux1 : Same HR (upd HR x1 (.tup [.str "trim"])) := same_new hx1
          generalize upd HR x1 (.tup [.str "trim"]) = HX1 at cx1 ux1 ⊢
          refine ⟨small_sz (by simp), fun x2 hx2 => ?_⟩
          have cx2 : upd HX1 x2 (.lst [.ref tr, .ref x1]) x2 = some (.lst [.ref tr, .ref x1]) := upd_same
          have ux2 : Same HX1 (upd HX1 x2 (.lst [.ref tr, .ref x1])) := same_new hx2
          generalize upd HX1 x2 (.lst [.ref tr, .ref x1]) = HX2 at cx2 ux2 ⊢
          have hpX := ux2 _ _ (ux1 _ _ hpR)
          have hmX := ux2 _ _ (ux1 _ _ hmR)
          have htlX := ux2 _ _ (ux1 _ _ htlR)
          refine ⟨_, rfl, _, rfl, _, _, _, _, rfl, rfl, SqL.of hpX, atI_of (j := 4) rfl rfl, _, rfl, _, _, _, _, rfl, rfl, SqL.of hpX, atI_of (j := 3) rfl rfl, _, rfl, _, _, _, _, rfl, rfl, SqL.of hmX, atI_of (j := 3) rfl rfl, small_sz (by simp), fun x4 hx4 => ?_⟩
          have cx4 : upd HX2 x4 (.tup [.str "put", .int 5, .int (P 4 : Int), .int (P 3 : Int), .int (M 3 : Int)]) x4 = some (.tup [.str "put", .int 5, .int (P 4 : Int), .int (P 3 : Int), .int (M 3 : Int)]) := upd_same
          have ux4 : Same HX2 (upd HX2 x4 (.tup [.str "put", .int 5, .int (P 4 : Int), .int (P 3 : Int), .int (M 3 : Int)])) := same_new hx4
          generalize upd HX2 x4 (.tup [.str "put", .int 5, .int (P 4 : Int), .int (P 3 : Int), .int (M 3 : Int)]) = HX4 at cx4 ux4 ⊢
          refine ⟨small_sz (by simp), fun x5 hx5 => ?_⟩
          have cx5 : upd HX4 x5 (.lst [.ref x4]) x5 = some (.lst [.ref x4]) := upd_same
          have ux5 : Same HX4 (upd HX4 x5 (.lst [.ref x4])) := same_new hx5
          generalize upd HX4 x5 (.lst [.ref x4]) = HX5 at cx5 ux5 ⊢
          have htlX5 := ux5 _ _ (ux4 _ _ htlX)
          refine ⟨tl, x5, _, _, rfl, rfl, htlX5, cx5, small_sz_cat, fun x6 hx6 => ?_⟩
          have cx6 : upd HX5 x6 (.lst ([.ref ts, .ref tu, .ref tf] ++ [.ref x4])) x6 = some (.lst ([.ref ts, .ref tu, .ref tf] ++ [.ref x4])) := upd_same
          have ux6 : Same HX5 (upd HX5 x6 (.lst ([.ref ts, .ref tu, .ref tf] ++ [.ref x4]))) := same_new hx6
          generalize upd HX5 x6 (.lst ([.ref ts, .ref tu, .ref tf] ++ [.ref x4])) = HX6 at cx6 ux6 ⊢
          refine ⟨small_sz (by simp), fun x7 hx7 => ?_⟩
          have cx7 : upd HX6 x7 (.tup [.ref x2, .ref x6]) x7 = some (.tup [.ref x2, .ref x6]) := upd_same
          have ux7 : Same HX6 (upd HX6 x7 (.tup [.ref x2, .ref x6])) := same_new hx7
          generalize upd HX6 x7 (.tup [.ref x2, .ref x6]) = HZ at cx7 ux7 ⊢
          have sZ : Same HR HZ := ((((ux1.trans ux2).trans ux4).trans ux5).trans ux6).trans ux7
          have AZ := AR2.sm sZ
          have off : ∀ {x : Addr} {o : HO}, HR x = none → HZ x = some o → offW ad2 W2 HZ x = some o := fun hn h => by rw [offW_out (newR hn)]; exact h
          have s00 : Same (offW ad W HA) (offW ad2 W2 HZ) := AZ.back
          have offT : ∀ {x : Addr} {xs : List V}, H x = none → HA x = some (.tup xs) → offW ad2 W2 HZ x = some (.tup xs) := fun hn h => s00 _ _ (by rw [offW_out (A.new_off hn)]; exact h)
          have htlZ : offW ad2 W2 HZ tl = some (.lst [.ref ts, .ref tu, .ref tf]) := s00 _ _ htl0
          refine kQ (offW ad2 W2 HZ) ad2 W2 [(tr, .reach (P 4) (W.ln 5 : Int) (M 3)), (x1, .trim)] [(ts, .store 3 (P 0) (M 0)), (tu, .running 4 (F 0) (P 1) (M 1)), (tf, .fold 6 (F 1) (P 2) (M 2)), (x4, .put 5 (P 4) (P 3) (M 3))] x7 x2 x6 HZ (AA.back.trans s00) e1 e2 AZ.rebase (fun q hq => ?_) (off (ux1.free (ux2.free (ux4.free (ux5.free (ux6.free hx7))))) cx7) (off (ux1.free hx2) (ux7 _ _ (ux6 _ _ (ux5 _ _ (ux4 _ _ cx2))))) (off (ux1.free (ux2.free (ux4.free (ux5.free hx6)))) (ux7 _ _ cx6)) ?_
          · simp only [List.mem_append, List.mem_cons, List.not_mem_nil, or_false] at hq
            rcases hq with (rfl | rfl) | rfl | rfl | rfl | rfl
            · exact offT nr (ul _ _ (uf _ _ (uu _ _ (us _ _ cr))))
            · exact off hx1 (ux7 _ _ (ux6 _ _ (ux5 _ _ (ux4 _ _ (ux2 _ _ cx1)))))
            · exact offT ns_ (ul _ _ (uf _ _ (uu _ _ cs)))
            · exact offT nu (ul _ _ (uf _ _ cu))
            · exact offT nf (ul _ _ cf)
            · exact off (ux1.free (ux2.free hx4)) (ux7 _ _ (ux6 _ _ (ux5 _ _ cx4)))
          · refine ⟨.inr ⟨P 4, M 3, rfl, okR, laid, hW2.symm⟩, P 0, M 0, F 0, P 1, M 1, F 1, P 2, M 2, [.put 5 (P 4) (P 3) (M 3)], rfl, fun st hst => ?_, .inr ⟨P 4, P 3, M 3, rfl, fun e he => ?_⟩⟩
            · simp only [List.map_cons, List.map_nil, List.mem_cons, List.not_mem_nil, or_false] at hst
              rcases hst with rfl | rfl | rfl | rfl
              · exact okL _ (by simp)
              · exact okL _ (by simp)
              · exact okL _ (by simp)
              · exact okP
            · rw [← hW2] at he ⊢
              exact reach_in (W := W) (p := P 4) (m := M 3) (n := (W.ln 5 : Int)) he
      · refine ⟨_, rfl, _, rfl, nil_sz, fun t9 ht9 => ?_⟩
        have s9 : Same HB (upd HB t9 (.lst [])) := same_new ht9
        generalize upd HB t9 (.lst []) = H9' at s9 ⊢
        refine ⟨_, ad, W, tr, .reach (P 4) (W.ln 5 : Int) (M 3), .ref t9, rfl, AB.sm s9, hr0, okR, laid, fun z => (z rfl).elim, fun b2 HC sC hb2 => ⟨_, rfl, ?_⟩⟩
        have sBC : Same HA HC := (sB.trans s9).trans sC
        cases b2 with
        | true =>
          skip
          refine ⟨small_sz (by simp), fun x1 hx1 => ?_⟩
          have cx1 : upd HC x1 (.tup [.str "trim"]) x1 = some (.tup [.str "trim"]) := upd_same
          have ux1 : Same HC (upd HC x1 (.tup [.str "trim"])) := same_new hx1
          generalize upd HC x1 (.tup [.str "trim"]) = HX1 at cx1 ux1 ⊢
          refine ⟨small_sz (by simp), fun x2 hx2 => ?_⟩
          have cx2 : upd HX1 x2 (.lst [.ref x1]) x2 = some (.lst [.ref x1]) := upd_same
          have ux2 : Same HX1 (upd HX1 x2 (.lst [.ref x1])) := same_new hx2
          generalize upd HX1 x2 (.lst [.ref x1]) = HX2 at cx2 ux2 ⊢
          refine ⟨_, rfl, small_sz (by simp), fun x3 hx3 => ?_⟩
          have cx3 : upd HX2 x3 (.tup [.ref x2, .ref tl]) x3 = some (.tup [.ref x2, .ref tl]) := upd_same
          have ux3 : Same HX2 (upd HX2 x3 (.tup [.ref x2, .ref tl])) := same_new hx3
          generalize upd HX2 x3 (.tup [.ref x2, .ref tl]) = HZ at cx3 ux3 ⊢
          have sX : Same HA HZ := ((sBC.trans ux1).trans ux2).trans ux3
          have AZ := AA.sm sX
          have off : ∀ {x : Addr} {o : HO}, HA x = none → HZ x = some o → offW ad W HZ x = some o := fun hn h => by rw [offW_out (A.new_off (sA.free hn))]; exact h
          have offT : ∀ {x : Addr} {xs : List V}, HA x = some (.tup xs) → offW ad W HZ x = some (.tup xs) := fun h => AZ.out_tup (sX _ _ h)
          have htlZ : offW ad W HZ tl = some (.lst [.ref ts, .ref tu, .ref tf]) := by rw [offW_out (A.new_off htl0H)]; exact sX _ _ cl
          refine kQ (offW ad W HZ) ad W [(x1, .trim)] [(ts, .store 3 (P 0) (M 0)), (tu, .running 4 (F 0) (P 1) (M 1)), (tf, .fold 6 (F 1) (P 2) (M 2))] x3 x2 tl HZ AZ.back rfl rfl AZ.rebase (fun q hq => ?_) (off (sBC.free (ux1.free (ux2.free hx3))) cx3) (off (sBC.free (ux1.free hx2)) (ux3 _ _ cx2)) htlZ ?_
          · simp only [List.mem_append, List.mem_cons, List.not_mem_nil, or_false] at hq
            rcases hq with rfl | rfl | rfl | rfl
            · exact off (sBC.free hx1) (ux3 _ _ (ux2 _ _ cx1))
            · exact offT (ul _ _ (uf _ _ (uu _ _ cs)))
            · exact offT (ul _ _ (uf _ _ cu))
            · exact offT (ul _ _ cf)
          · refine ⟨.inl ⟨rfl, rfl⟩, P 0, M 0, F 0, P 1, M 1, F 1, P 2, M 2, [], rfl, fun st hst => ?_, .inl rfl⟩
            simp only [List.map_cons, List.map_nil, List.mem_cons, List.not_mem_nil, or_false] at hst
            rcases hst with rfl | rfl | rfl
            · exact ⟨(hM 0).1, (hP 0).1, rfl⟩
            · exact ⟨(hM 1).1, (hP 1).1, rfl, (hF 0).1⟩
            · exact ⟨(hM 2).1, (hP 2).1, rfl, (hF 1).1⟩
        | false =>
          skip
          refine ⟨_, rfl, _, rfl, nil_sz, fun t8 ht8 => ?_⟩
          have s8 : Same HC (upd HC t8 (.lst [])) := same_new ht8
          generalize upd HC t8 (.lst []) = H8' at s8 ⊢
          refine ⟨_, ad, W, tr, .reach (P 4) (W.ln 5 : Int) (M 3), .ref t8, rfl, AR.sm (sBC.trans s8), hr0, okR, laid, rfl, fun z => (z rfl).elim, fun ad2 HP e1 e2 AP => ?_⟩
          have offA : ∀ {x : Addr} {o : HO}, H x = none → HA x = some o → HP x = some o := fun hn h => AP.same _ _ (by rw [offW_out (A.new_off hn)]; exact h)
          have hpP := offA nD1 hpA
          have hmP := offA nD2 hmA
          have htlP := offA htl0H cl
          generalize hW2 : W.played (.reach (P 4) (W.ln 5 : Int) (M 3)) = W2 at AP
          have nse2 : W2.nse = W.nse := by rw [← hW2]; rfl
          have ks2 : W2.ks = W.ks := by rw [← hW2]; rfl
          have okL : ∀ st ∈ [Stp.store 3 (P 0) (M 0), .running 4 (F 0) (P 1) (M 1), .fold 6 (F 1) (P 2) (M 2)], W2.ok st := fun st hst => by
            simp only [List.mem_cons, List.not_mem_nil, or_false] at hst
            rcases hst with rfl | rfl | rfl
            · exact ⟨by rw [ks2]; exact (hM 0).1, by rw [nse2]; exact (hP 0).1, rfl⟩
            · exact ⟨by rw [ks2]; exact (hM 1).1, by rw [nse2]; exact (hP 1).1, rfl, (hF 0).1⟩
            · exact ⟨by rw [ks2]; exact (hM 2).1, by rw [nse2]; exact (hP 2).1, rfl, (hF 1).1⟩
          have okP : W2.ok (.put 5 (P 4) (P 3) (M 3)) := ⟨by rw [ks2]; exact (hM 3).1, by rw [nse2]; exact (hP 3).1, by rw [nse2]; exact (hP 4).1, rfl⟩
          refine ⟨_, rfl, _, rfl, _, _, _, _, rfl, rfl, SqL.of hpP, atI_of (j := 4) rfl rfl, _, rfl, _, _, _, _, rfl, rfl, SqL.of hpP, atI_of (j := 3) rfl rfl, _, rfl, _, _, _, _, rfl, rfl, SqL.of hmP, atI_of (j := 3) rfl rfl, small_sz (by simp), fun tp htp => ?_⟩
          have ctp : upd HP tp (.tup [.str "put", .int 5, .int (P 4 : Int), .int (P 3 : Int), .int (M 3 : Int)]) tp = some (.tup [.str "put", .int 5, .int (P 4 : Int), .int (P 3 : Int), .int (M 3 : Int)]) := upd_same
          have utp : Same HP (upd HP tp (.tup [.str "put", .int 5, .int (P 4 : Int), .int (P 3 : Int), .int (M 3 : Int)])) := same_new htp
          generalize upd HP tp (.tup [.str "put", .int 5, .int (P 4 : Int), .int (P 3 : Int), .int (M 3 : Int)]) = HQ at ctp utp ⊢
          have AQ := (AP.sm utp).rebase
          have htp0 := (AP.sm utp).out_tup ctp
          have backQ := (AP.sm utp).back
          refine ⟨_, ad2, W2, tp, .put 5 (P 4) (P 3) (M 3), by rw [e1]; rfl, AQ, htp0, okP, fun b3 HR sR hb3 => ⟨_, rfl, ?_⟩⟩
          have AR2 : WA (offW ad W HA) ad2 W2 HR := (AP.sm utp).sm sR
          have s0R : Same (offW ad W HA) HR := AR2.same
          have hpR := sR _ _ (utp _ _ hpP)
          have hmR := sR _ _ (utp _ _ hmP)
          have htlR := sR _ _ (utp _ _ htlP)
          have freeH : ∀ {x : Addr}, HR x = none → HP x = none := fun h => utp.free (sR.free h)
          have newR : ∀ {x : Addr}, HR x = none → ∀ r, W2.rok r = true → x ≠ ad2 r := fun h => AR2.new_off h
          cases b3 with
          | false =>
            refine ⟨_, rfl, small_sz (by simp), fun x1 hx1 => ?_⟩
            have cx1 : upd HR x1 (.tup [.str "trim"]) x1 = some (.tup [.str "trim"]) := upd_same
            have ux1 : Same HR (upd HR x1 (.tup [.str "trim"])) := same_new hx1
            generalize upd HR x1 (.tup [.str "trim"]) = HX1 at cx1 ux1 ⊢
            refine ⟨small_sz (by simp), fun x2 hx2 => ?_⟩
            have cx2 : upd HX1 x2 (.lst [.ref tr, .ref x1]) x2 = some (.lst [.ref tr, .ref x1]) := upd_same
            have ux2 : Same HX1 (upd HX1 x2 (.lst [.ref tr, .ref x1])) := same_new hx2
            generalize upd HX1 x2 (.lst [.ref tr, .ref x1]) = HX2 at cx2 ux2 ⊢
            refine ⟨_, rfl, small_sz (by simp), fun x3 hx3 => ?_⟩
            have cx3 : upd HX2 x3 (.tup [.ref x2, .ref tl]) x3 = some (.tup [.ref x2, .ref tl]) := upd_same
            have ux3 : Same HX2 (upd HX2 x3 (.tup [.ref x2, .ref tl])) := same_new hx3
            generalize upd HX2 x3 (.tup [.ref x2, .ref tl]) = HZ at cx3 ux3 ⊢
            have sZ : Same HR HZ := (ux1.trans ux2).trans ux3
            have AZ := AR2.sm sZ
            have off : ∀ {x : Addr} {o : HO}, HR x = none → HZ x = some o → offW ad2 W2 HZ x = some o := fun hn h => by rw [offW_out (newR hn)]; exact h
            have s00 : Same (offW ad W HA) (offW ad2 W2 HZ) := AZ.back
            have offT : ∀ {x : Addr} {xs : List V}, H x = none → HA x = some (.tup xs) → offW ad2 W2 HZ x = some (.tup xs) := fun hn h => s00 _ _ (by rw [offW_out (A.new_off hn)]; exact h)
            have htlZ : offW ad2 W2 HZ tl = some (.lst [.ref ts, .ref tu, .ref tf]) := s00 _ _ htl0
            refine kQ (offW ad2 W2 HZ) ad2 W2 [(tr, .reach (P 4) (W.ln 5 : Int) (M 3)), (x1, .trim)] [(ts, .store 3 (P 0) (M 0)), (tu, .running 4 (F 0) (P 1) (M 1)), (tf, .fold 6 (F 1) (P 2) (M 2))] x3 x2 tl HZ (AA.back.trans s00) e1 e2 AZ.rebase (fun q hq => ?_) (off (ux1.free (ux2.free hx3)) cx3) (off (ux1.free hx2) (ux3 _ _ cx2)) htlZ ?_
            · simp only [List.mem_append, List.mem_cons, List.not_mem_nil, or_false] at hq
              rcases hq with (rfl | rfl) | rfl | rfl | rfl
              · exact offT nr (ul _ _ (uf _ _ (uu _ _ (us _ _ cr))))
              · exact off hx1 (ux3 _ _ (ux2 _ _ cx1))
              · exact offT ns_ (ul _ _ (uf _ _ (uu _ _ cs)))
              · exact offT nu (ul _ _ (uf _ _ cu))
              · exact offT nf (ul _ _ cf)
            · exact ⟨.inr ⟨P 4, M 3, rfl, okR, laid, hW2.symm⟩, P 0, M 0, F 0, P 1, M 1, F 1, P 2, M 2, [], rfl, okL, .inl rfl⟩
          | true =>
            refine ⟨_, rfl, small_sz (by simp), fun x1 hx1 => ?_⟩
            have cx1 : upd HR x1 (.tup [.str "trim"]) x1 = some (.tup [.str "trim"]) := upd_same
            have ux1 : Same HR (upd HR x1 (.tup [.str "trim"])) := same_new hx1
            generalize upd HR x1 (.tup [.str "trim"]) = HX1 at cx1 ux1 ⊢
            refine ⟨small_sz (by simp), fun x2 hx2 => ?_⟩
            have cx2 : upd HX1 x2 (.lst [.ref tr, .ref x1]) x2 = some (.lst [.ref tr, .ref x1]) := upd_same
            have ux2 : Same HX1 (upd HX1 x2 (.lst [.ref tr, .ref x1])) := same_new hx2
            generalize upd HX1 x2 (.lst [.ref tr, .ref x1]) = HX2 at cx2 ux2 ⊢
            have hpX := ux2 _ _ (ux1 _ _ hpR)
            have hmX := ux2 _ _ (ux1 _ _ hmR)
            have htlX := ux2 _ _ (ux1 _ _ htlR)
            refine ⟨_, rfl, _, rfl, _, _, _, _, rfl, rfl, SqL.of hpX, atI_of (j := 4) rfl rfl, _, rfl, _, _, _, _, rfl, rfl, SqL.of hpX, atI_of (j := 3) rfl rfl, _, rfl, _, _, _, _, rfl, rfl, SqL.of hmX, atI_of (j := 3) rfl rfl, small_sz (by simp), fun x4 hx4 => ?_⟩
            have cx4 : upd HX2 x4 (.tup [.str "put", .int 5, .int (P 4 : Int), .int (P 3 : Int), .int (M 3 : Int)]) x4 = some (.tup [.str "put", .int 5, .int (P 4 : Int), .int (P 3 : Int), .int (M 3 : Int)]) := upd_same
            have ux4 : Same HX2 (upd HX2 x4 (.tup [.str "put", .int 5, .int (P 4 : Int), .int (P 3 : Int), .int (M 3 : Int)])) := same_new hx4
            generalize upd HX2 x4 (.tup [.str "put", .int 5, .int (P 4 : Int), .int (P 3 : Int), .int (M 3 : Int)]) = HX4 at cx4 ux4 ⊢
            refine ⟨small_sz (by simp), fun x5 hx5 => ?_⟩
            have cx5 : upd HX4 x5 (.lst [.ref x4]) x5 = some (.lst [.ref x4]) := upd_same
            have ux5 : Same HX4 (upd HX4 x5 (.lst [.ref x4])) := same_new hx5
            generalize upd HX4 x5 (.lst [.ref x4]) = HX5 at cx5 ux5 ⊢
            have htlX5 := ux5 _ _ (ux4 _ _ htlX)
            refine ⟨tl, x5, _, _, rfl, rfl, htlX5, cx5, small_sz_cat, fun x6 hx6 => ?_⟩
            have cx6 : upd HX5 x6 (.lst ([.ref ts, .ref tu, .ref tf] ++ [.ref x4])) x6 = some (.lst ([.ref ts, .ref tu, .ref tf] ++ [.ref x4])) := upd_same
            have ux6 : Same HX5 (upd HX5 x6 (.lst ([.ref ts, .ref tu, .ref tf] ++ [.ref x4]))) := same_new hx6
            generalize upd HX5 x6 (.lst ([.ref ts, .ref tu, .ref tf] ++ [.ref x4])) = HX6 at cx6 ux6 ⊢
            refine ⟨small_sz (by simp), fun x7 hx7 => ?_⟩
            have cx7 : upd HX6 x7 (.tup [.ref x2, .ref x6]) x7 = some (.tup [.ref x2, .ref x6]) := upd_same
            have ux7 : Same HX6 (upd HX6 x7 (.tup [.ref x2, .ref x6])) := same_new hx7
            generalize upd HX6 x7 (.tup [.ref x2, .ref x6]) = HZ at cx7 ux7 ⊢
            have sZ : Same HR HZ := ((((ux1.trans ux2).trans ux4).trans ux5).trans ux6).trans ux7
            have AZ := AR2.sm sZ
            have off : ∀ {x : Addr} {o : HO}, HR x = none → HZ x = some o → offW ad2 W2 HZ x = some o := fun hn h => by rw [offW_out (newR hn)]; exact h
            have s00 : Same (offW ad W HA) (offW ad2 W2 HZ) := AZ.back
            have offT : ∀ {x : Addr} {xs : List V}, H x = none → HA x = some (.tup xs) → offW ad2 W2 HZ x = some (.tup xs) := fun hn h => s00 _ _ (by rw [offW_out (A.new_off hn)]; exact h)
            have htlZ : offW ad2 W2 HZ tl = some (.lst [.ref ts, .ref tu, .ref tf]) := s00 _ _ htl0
            refine kQ (offW ad2 W2 HZ) ad2 W2 [(tr, .reach (P 4) (W.ln 5 : Int) (M 3)), (x1, .trim)] [(ts, .store 3 (P 0) (M 0)), (tu, .running 4 (F 0) (P 1) (M 1)), (tf, .fold 6 (F 1) (P 2) (M 2)), (x4, .put 5 (P 4) (P 3) (M 3))] x7 x2 x6 HZ (AA.back.trans s00) e1 e2 AZ.rebase (fun q hq => ?_) (off (ux1.free (ux2.free (ux4.free (ux5.free (ux6.free hx7))))) cx7) (off (ux1.free hx2) (ux7 _ _ (ux6 _ _ (ux5 _ _ (ux4 _ _ cx2))))) (off (ux1.free (ux2.free (ux4.free (ux5.free hx6)))) (ux7 _ _ cx6)) ?_
            · simp only [List.mem_append, List.mem_cons, List.not_mem_nil, or_false] at hq
              rcases hq with (rfl | rfl) | rfl | rfl | rfl | rfl
              · exact offT nr (ul _ _ (uf _ _ (uu _ _ (us _ _ cr))))
              · exact off hx1 (ux7 _ _ (ux6 _ _ (ux5 _ _ (ux4 _ _ (ux2 _ _ cx1)))))
              · exact offT ns_ (ul _ _ (uf _ _ (uu _ _ cs)))
              · exact offT nu (ul _ _ (uf _ _ cu))
              · exact offT nf (ul _ _ cf)
              · exact off (ux1.free (ux2.free hx4)) (ux7 _ _ (ux6 _ _ (ux5 _ _ cx4)))
            · refine ⟨.inr ⟨P 4, M 3, rfl, okR, laid, hW2.symm⟩, P 0, M 0, F 0, P 1, M 1, F 1, P 2, M 2, [.put 5 (P 4) (P 3) (M 3)], rfl, fun st hst => ?_, .inr ⟨P 4, P 3, M 3, rfl, fun e he => ?_⟩⟩
              · simp only [List.map_cons, List.map_nil, List.mem_cons, List.not_mem_nil, or_false] at hst
                rcases hst with rfl | rfl | rfl | rfl
                · exact okL _ (by simp)
                · exact okL _ (by simp)
                · exact okL _ (by simp)
                · exact okP
              · rw [← hW2] at he ⊢
                exact reach_in (W := W) (p := P 4) (m := M 3) (n := (W.ln 5 : Int)) he
theorem cal__law_effects {P : Program} {w : World} {K : PySem.W.Frag} {mg : Str → Option Value} {base : Heap} (T : Txt w K mg) : Cal P w K mg base 5 "_law_effects" ["_law_script", "_law_world", "_law_seats", "_law_wide"] (sp__law_effects K) := ⟨_, _, ok__law_effects T, T.g__law_effects, T.f__law_effects.kp, T.f__law_effects.bindsN (ps := ["_law_script", "_law_world", "_law_seats", "_law_wide"]) fun _ _ _ _ _ _ us hl => match us, hl with | [_, _, _, _], _ => rfl⟩
end Rb
end

section
set_option Elab.async false
set_option linter.all false
set_option maxRecDepth 100000
set_option maxHeartbeats 4000000
namespace Rb
open PySem PySem.Spec PyProof.Rows L2

/-- what the script's parts are -/
structure PartsOK (ln : Nat → Nat) (pr : Nat → Nat → Int) (many : Nat) : Prop where
  m0 : 0 < many
  m1 : many ≤ 40
  l0 : ln 0 = many
  l1 : ln 1 = many
  l2 : 0 < ln 2 ∧ ln 2 ≤ 12
  l3 : ln 3 = many
  l4 : ln 4 = many
  l5 : 0 < ln 5 ∧ ln 5 ≤ 9
  l6 : 0 < ln 6 ∧ ln 6 ≤ 3
  kr : ∀ r i, KR (pr r i)
theorem nd_ix {as : List Addr} (nd : as.Nodup) {i j : Nat} {x : Addr} (hi : as[i]? = some x) (hj : as[j]? = some x) : i = j := by
  have h1 := (List.getElem?_eq_some_iff.mp hi)
  have h2 := (List.getElem?_eq_some_iff.mp hj)
  exact nd_get nd h1.1 h2.1 (by rw [List.getD_eq_getElem?_getD, List.getD_eq_getElem?_getD, hi, hj])
def sp__law_parts (K : PySem.W.Frag) : Sp := fun vs H Q _ => ∃ (a : Addr) (ns : List Int), vs = [.ref a] ∧ SqL K H a (ns.map V.int) ∧
  ∀ (p : Addr) (as : List Addr) (ln : Nat → Nat) (pr : Nat → Nat → Int) (many : Nat) (H' : Hp), H p = none → Same H H' → H' p = some (.lst (as.map V.ref)) → as.length = 7 → as.Nodup → p ∉ as → (∀ (r : Nat) (x : Addr), as[r]? = some x → H x = none ∧ H' x = some (.lst ((List.range (ln r)).map fun i => V.int (pr r i)))) → PartsOK ln pr many → Q (.ref p) H'
theorem sc__law_parts : FnScope ["_law_script", "_law_many", "_law_third", "_law_lengths", "_law_parts_here", "_law_place", "_law_length", "_law_j"] ["_law_script"] (defScope s__law_parts) := ⟨rfl, rfl, rfl, by decide +kernel, rfl, by decide +kernel, by decide +kernel⟩
theorem ok__law_parts {P : Program} {w : World} {K : PySem.W.Frag} {mg : Str → Option Value} {base : Heap} (T : Txt w K mg) : FnOk P w K mg base CX0 4 (ad__law_parts K) (fdOf K (ad__law_parts K)) ["_law_script"] (sp__law_parts K) := by
  have C__law_some := cal__law_some (P := P) (base := base) T
  have C__law_number := cal__law_number (P := P) (base := base) T
  refine T.f__law_parts.ok sc__law_parts (fun vs H Q E h => ?_) (fun cdv A outer s H vs Q E hr h => ?_)
  · obtain ⟨_, _, rfl, _⟩ := h
    rfl
  · have hu := hu_of hr
    have nd := sc__law_parts.nd
    refine ⟨_, PSs.nox ((pss_cons (ps_set (i := 1) nd rfl (Or.inl rfl) (pe_op op_add pe_int (pe_cl C__law_some (hr.mono (by decide)) (pa_cons (pv 0) (pa_cons pe_int (pa_cons pe_int (pa_cons pe_int pa_nil)))))))
      (pss_cons (ps_if (pt_cmpR op_eq (pe_cl C__law_some (hr.mono (by decide)) (pa_cons (pv 0) (pa_cons pe_int (pa_cons pe_int (pa_cons pe_int pa_nil))))) pe_int (nomark _))
      (pss_one (ps_set (i := 1) nd rfl (Or.inl rfl) (pe_op op_add pe_int (pe_cl C__law_some (hr.mono (by decide)) (pa_cons (pv 0) (pa_cons pe_int (pa_cons pe_int (pa_cons pe_int pa_nil))))))))
      pss_nil)
      (pss_cons (ps_set (i := 2) nd rfl (Or.inl rfl) (pe_op op_add pe_int (pe_cl C__law_some (hr.mono (by decide)) (pa_cons (pv 0) (pa_cons pe_int (pa_cons pe_int (pa_cons pe_int pa_nil)))))))
      (pss_cons (ps_set (i := 3) nd rfl (Or.inl rfl) (pe_lst (pa_cons (pv 1) (pa_cons (pv 1) (pa_cons (pv 2) (pa_cons (pv 1) (pa_cons (pv 1) (pa_cons (pe_op op_add pe_int (pe_cl C__law_some (hr.mono (by decide)) (pa_cons (pv 0) (pa_cons pe_int (pa_cons pe_int (pa_cons pe_int pa_nil)))))) (pa_cons (pe_op op_add pe_int (pe_cl C__law_some (hr.mono (by decide)) (pa_cons (pv 0) (pa_cons pe_int (pa_cons pe_int (pa_cons pe_int pa_nil)))))) pa_nil)))))))))
      (pss_cons (ps_set (i := 4) nd rfl (Or.inl rfl) (pe_lst pa_nil))
      (pss_cons (ps_set (i := 5) nd rfl (Or.inr rfl) pe_int)
      (pss_cons (ps_for PassesOwn.never rfl (pi_list (pv 3)) (pg_name (i := 6) nd rfl (Or.inl rfl))
      (pss_cons (ps_expr (pe_bm PySem.F.plainAttrs_list PySem.F.slot_list_append PySem.F.type_list_append mt_append (pv 4) (pa_cons (pe_lc (own := [("_law_j", 7)]) (g := gName 7) rfl nd (pi_range1 rfl T.b_range (pa_cons (pv 6) pa_nil)) (blkOk_by (N := ["_law_script", "_law_many", "_law_third", "_law_lengths", "_law_parts_here", "_law_place", "_law_length", "_law_j"]) (sc := defScope s__law_parts) (by decide +kernel)) (fun _ _ _ _ _ => pg_name (i := 7) nd rfl (Or.inl rfl)) (fun _ _ _ _ _ => pts_nil) (fun _ _ _ _ _ => (pe_cl C__law_number (hr.mono (by decide)) (pa_cons (pv 0) (pa_cons (pe_op op_add (pv 5) (pv 7)) pa_nil))))) pa_nil)))
      (pss_one (ps_set (i := 5) nd rfl (Or.inr rfl) (pe_op op_add (pv 5) (pv 6))))))
      (pss_cons (ps_for PassesOwn.never rfl (pi_range1 rfl T.b_range (pa_cons (pv 1) pa_nil)) (pg_name (i := 7) nd rfl (Or.inl rfl))
      (pss_one (ps_asg (pe_op op_mul (pe_ix ix_list (pe_ix ix_list (pv 4) pe_int (fun _ _ => rfl)) (pv 7) (fun _ _ => rfl)) (pe_cl C__law_some (hr.mono (by decide)) (pa_cons (pv 0) (pa_cons (pe_op op_add pe_int (pv 7)) (pa_cons pe_int (pa_cons pe_int pa_nil)))))) (pg_sub (pe_ix ix_list (pv 4) pe_int (fun _ _ => rfl)) (pv 7) set_list))))
      (pss_one (ps_ret (pv 4)))))))))))), ?_⟩
    obtain ⟨a, ns, rfl, hS, kQ⟩ := h
    have b1 := lsome_b ns 0 1 (many := 8) (by decide)
    have b2 := lsome_b ns 0 2 (many := 8) (by decide)
    have b3 := lsome_b ns 0 3 (many := 40) (by decide)
    have b4 := lsome_b ns 0 4 (many := 12) (by decide)
    have b5 := lsome_b ns 0 5 (many := 9) (by decide)
    have b6 := lsome_b ns 0 6 (many := 3) (by decide)
    refine ⟨_, rfl, a, ns, 0, 1, 8, rfl, hS, by decide, by decide, by decide, _, _, rfl, rfl, ?_⟩
    refine ⟨_, rfl, a, ns, 0, 2, 8, rfl, hS, by decide, by decide, by decide, rfl, _, rfl, iteI (fun c => ?_) (fun c => ?_)⟩
    · refine ⟨_, rfl, a, ns, 0, 3, 40, rfl, hS, by decide, by decide, by decide, _, _, rfl, rfl, ?_⟩
      refine ⟨_, rfl, a, ns, 0, 4, 12, rfl, hS, by decide, by decide, by decide, _, _, rfl, rfl, ?_⟩
      refine ⟨_, rfl, _, rfl, _, rfl, _, rfl, _, rfl, _, rfl, a, ns, 0, 5, 9, rfl, hS, by decide, by decide, by decide, _, _, rfl, rfl, _, rfl, a, ns, 0, 6, 3, rfl, hS, by decide, by decide, by decide, _, _, rfl, rfl, small_sz (by simp), fun lL hlL => ?_⟩
      have hLc : upd H lL (.lst (([(1 + lsome ns 0 3 40), (1 + lsome ns 0 3 40), (1 + lsome ns 0 4 12), (1 + lsome ns 0 3 40), (1 + lsome ns 0 3 40), (1 + lsome ns 0 5 9), (1 + lsome ns 0 6 3)] : List Int).map V.int)) lL = some (.lst (([(1 + lsome ns 0 3 40), (1 + lsome ns 0 3 40), (1 + lsome ns 0 4 12), (1 + lsome ns 0 3 40), (1 + lsome ns 0 3 40), (1 + lsome ns 0 5 9), (1 + lsome ns 0 6 3)] : List Int).map V.int)) := upd_same
      have u1 : Same H (upd H lL (.lst (([(1 + lsome ns 0 3 40), (1 + lsome ns 0 3 40), (1 + lsome ns 0 4 12), (1 + lsome ns 0 3 40), (1 + lsome ns 0 3 40), (1 + lsome ns 0 5 9), (1 + lsome ns 0 6 3)] : List Int).map V.int))) := same_new hlL
      have eL : HO.lst (([(1 + lsome ns 0 3 40), (1 + lsome ns 0 3 40), (1 + lsome ns 0 4 12), (1 + lsome ns 0 3 40), (1 + lsome ns 0 3 40), (1 + lsome ns 0 5 9), (1 + lsome ns 0 6 3)] : List Int).map V.int) = HO.lst [.int (1 + lsome ns 0 3 40), .int (1 + lsome ns 0 3 40), .int (1 + lsome ns 0 4 12), .int (1 + lsome ns 0 3 40), .int (1 + lsome ns 0 3 40), .int (1 + lsome ns 0 5 9), .int (1 + lsome ns 0 6 3)] := rfl
      rw [← eL]
      have hLb : ∀ x ∈ ([(1 + lsome ns 0 3 40), (1 + lsome ns 0 3 40), (1 + lsome ns 0 4 12), (1 + lsome ns 0 3 40), (1 + lsome ns 0 3 40), (1 + lsome ns 0 5 9), (1 + lsome ns 0 6 3)] : List Int), 1 ≤ x ∧ x ≤ 40 := fun x hx => by
        simp only [List.mem_cons, List.not_mem_nil, or_false] at hx
        rcases hx with rfl | rfl | rfl | rfl | rfl | rfl | rfl <;> omega
      generalize upd H lL (.lst (([(1 + lsome ns 0 3 40), (1 + lsome ns 0 3 40), (1 + lsome ns 0 4 12), (1 + lsome ns 0 3 40), (1 + lsome ns 0 3 40), (1 + lsome ns 0 5 9), (1 + lsome ns 0 6 3)] : List Int).map V.int)) = H1 at hLc u1 ⊢
      refine ⟨nil_sz, fun lP hlP => ?_⟩
      have hPc : upd H1 lP (.lst []) lP = some (.lst []) := upd_same
      have u2 : Same H1 (upd H1 lP (.lst [])) := same_new hlP
      have hLP : lL ≠ lP := fun z => by rw [← z, hLc] at hlP; cases hlP
      have hP0 : H lP = none := u1.free hlP
      generalize upd H1 lP (.lst []) = H2 at hPc u2 ⊢
      have hL2 := u2 _ _ hLc
      have u12 := u1.trans u2
      generalize hLZ : ([(1 + lsome ns 0 3 40), (1 + lsome ns 0 3 40), (1 + lsome ns 0 4 12), (1 + lsome ns 0 3 40), (1 + lsome ns 0 3 40), (1 + lsome ns 0 5 9), (1 + lsome ns 0 6 3)] : List Int) = Lz at *
      have hLl : Lz.length = 7 := by rw [← hLZ]; rfl
      refine ⟨_, rfl, lL, rfl, ⟨_, SqL.of hL2⟩, for_list (K := K) (a := lL) (xs := Lz.map V.int) (fun i σ H' => ∃ (v6 : Option V) (pl : Nat) (as : List Addr) (pr : Nat → Nat → Int), σ = [some (.ref a), some (.int (1 + lsome ns 0 3 40)), some (.int (1 + lsome ns 0 4 12)), some (.ref lL), some (.ref lP), some (.int (pl : Int)), v6, none] ∧ Same H H' ∧ H' lL = some (.lst (Lz.map V.int)) ∧ pl ≤ 8 + 40 * i ∧
          H' lP = some (.lst (as.map V.ref)) ∧ as.length = i ∧ as.Nodup ∧ lP ∉ as ∧ lL ∉ as ∧ (∀ (r : Nat) (x : Addr), as[r]? = some x → H x = none ∧ H' x = some (.lst ((List.range (Lz.getD r 0).toNat).map fun i => V.int (pr r i)))) ∧ ∀ r i, KR (pr r i))
        ⟨none, 8, [], fun _ _ => 0, rfl, u12, hL2, by omega, hPc, rfl, List.nodup_nil, by simp, by simp, by simp, fun _ _ => (⟨by decide, by decide⟩ : KR 0)⟩ (fun i σ H' _ ⟨_, _, _, _, _, _, h3, _⟩ => SqL.of h3) ?_ ?_⟩
      · rintro i y σ H3 hi ⟨v6, pl, as, pr, rfl, s3, hL3, hpl, hP3, hal, hand, hPa, hLa, hA, hkr⟩
        have hi7 : i < 7 := by
          have := (List.getElem?_eq_some_iff.mp hi).1
          rw [List.length_map, hLl] at this
          exact this
        obtain ⟨li, hli, rfl⟩ : ∃ li, Lz[i]? = some li ∧ y = .int li := by
          rw [List.getElem?_map] at hi
          cases hz : Lz[i]? with
          | none => rw [hz] at hi; cases hi
          | some z => rw [hz] at hi; cases hi; exact ⟨z, rfl, rfl⟩
        have hlb := hLb li (List.mem_of_getElem? hli)
        have hgd : Lz.getD i 0 = li := by rw [List.getD_eq_getElem?_getD, hli]; rfl
        refine ⟨_, rfl, lty hP3, _, rfl, _, rfl, by omega, by omega, fun D hD => ?_⟩
        refine comp_range hD (n := li.toNat) (fun j => V.int (lnum ns (pl + j))) (by omega) (fun j H' hj sx Q' q => ?_) (fun H4 s4 h4 => ?_)
        · refine ⟨_, rfl, _, rfl, _, rfl, _, _, rfl, rfl, a, ns, pl + j, ?_, (s3.trans sx).seq hS, by omega, q _ (Same.refl _)⟩
          show [V.ref a, V.int ((pl : Int) + (0 + (j : Int)))] ++ [] = [V.ref a, V.int ((pl + j : Nat) : Int)]
          rw [List.append_nil]
          congr 3
          push_cast
          omega
        have hP4 := s4 _ _ hP3
        have hDP : D ≠ lP := fun z => by rw [z, hP3] at hD; cases hD
        have hDL : D ≠ lL := fun z => by rw [z, hL3] at hD; cases hD
        have hDa : D ∉ as := fun hm => by
          obtain ⟨r, hr⟩ := List.mem_iff_getElem?.mp hm
          have := (hA r D hr).2
          rw [hD] at this
          cases this
        refine ⟨lP, _, _, rfl, rfl, hP4, by rw [List.length_map, hal]; exact sz_lt (by omega), ?_⟩
        have e5 : ((pl + li.toNat : Nat) : Int) = (pl : Int) + li := by omega
        refine ⟨_, rfl, _, rfl, _, _, rfl, rfl, _, pl + li.toNat, as ++ [D], fun r j => if r = i then lnum ns (pl + j) else pr r j, by rw [e5]; rfl, same_upd (s3.trans s4) hP0, by rw [upd_ne hLP]; exact s4 _ _ hL3, by omega, by rw [upd_same, List.map_append]; rfl, by rw [List.length_append, hal]; rfl, ?_, ?_, ?_, fun r x hx => ?_, fun r j => ?_⟩
        · refine List.nodup_append.mpr ⟨hand, by simp, fun u hu b hb => ?_⟩
          simp at hb
          subst hb
          exact fun z => hDa (by rw [← z]; exact hu)
        · intro hm
          rcases List.mem_append.mp hm with hm | hm
          · exact hPa hm
          · simp at hm
            exact hDP hm.symm
        · intro hm
          rcases List.mem_append.mp hm with hm | hm
          · exact hLa hm
          · simp at hm
            exact hDL hm.symm
        · by_cases hr : r < as.length
          · rw [List.getElem?_append_left hr] at hx
            obtain ⟨h5, h6⟩ := hA r x hx
            have hxP : x ≠ lP := fun z => hPa (by rw [← z]; exact List.mem_of_getElem? hx)
            refine ⟨h5, ?_⟩
            rw [upd_ne hxP, s4 _ _ h6]
            congr 2
            refine List.map_congr_left fun j _ => ?_
            exact congrArg V.int (if_neg (show ¬ r = i by omega)).symm
          · have hr2 : r = i := by
              have := (List.getElem?_eq_some_iff.mp hx).1
              rw [List.length_append] at this
              simp at this
              omega
            subst hr2
            rw [← hal, List.getElem?_append_right (Nat.le_refl _)] at hx
            simp at hx
            subst hx
            refine ⟨s3.free hD, ?_⟩
            rw [upd_ne hDP, h4, hgd]
            congr 2
            refine List.map_congr_left fun j _ => ?_
            exact congrArg V.int (if_pos rfl).symm
        · show KR (if r = i then lnum ns (pl + j) else pr r j)
          split
          · exact lnum_kr _ _
          · exact hkr r j
      rintro σ H3 ⟨v6, pl, as, pr, rfl, s3, hL3, hpl, hP3, hal, hand, hPa, hLa, hA, hkr⟩
      rw [List.length_map, hLl] at hal
      have hx1 : ∃ x1, as[1]? = some x1 := ⟨_, List.getElem?_eq_getElem (by omega)⟩
      obtain ⟨x1, hx1⟩ := hx1
      have hg1 : Lz.getD 1 0 = (1 + lsome ns 0 3 40) := by rw [← hLZ]; rfl
      have hxP1 : x1 ≠ lP := fun z => hPa (by rw [← z]; exact List.mem_of_getElem? hx1)
      refine ⟨_, rfl, _, rfl, by omega, by omega, ?_⟩
      refine for_range (fun i σ H' => ∃ (v7 : Option V) (pr : Nat → Nat → Int), σ = [some (.ref a), some (.int (1 + lsome ns 0 3 40)), some (.int (1 + lsome ns 0 4 12)), some (.ref lL), some (.ref lP), some (.int (pl : Int)), v6, v7] ∧ Same H H' ∧
          H' lP = some (.lst (as.map V.ref)) ∧ (∀ (r : Nat) (x : Addr), as[r]? = some x → H' x = some (.lst ((List.range (Lz.getD r 0).toNat).map fun i => V.int (pr r i)))) ∧ ∀ r i, KR (pr r i))
        ⟨none, pr, rfl, s3, hP3, fun r x h => (hA r x h).2, hkr⟩ ?_ ?_
      · rintro i σ H4 hi ⟨v7, pr, rfl, s4, hP4, hA4, hkr⟩
        have e0 : (0 : Int) + (i : Int) = (i : Int) := Int.zero_add _
        rw [e0]
        have h1 := hA4 1 x1 hx1
        rw [hg1] at h1
        have hma : (as.map V.ref)[1]? = some (.ref x1) := by rw [List.getElem?_map, hx1]; rfl
        have b13 := lsome_b ns (8 + i) 13 (many := 2) (by decide)
        have e8 : (8 : Int) + (i : Int) = ((8 + i : Nat) : Int) := by push_cast; rfl
        refine ⟨_, rfl, _, _, _, _, rfl, rfl, SqL.of hP4, atI_of (j := 1) rfl hma, _, rfl, _, _, _, _, rfl, rfl, SqL.of h1, atI_of rfl (rm_get (by omega)), ?_⟩
        refine ⟨_, rfl, _, rfl, _, _, rfl, rfl, a, ns, 8 + i, 13, 2, by rw [← e8]; rfl, s4.seq hS, by omega, by decide, by decide, _, _, rfl, rfl, (hkr 1 i).cmul _, ?_⟩
        refine ⟨_, rfl, _, _, _, _, rfl, rfl, SqL.of hP4, atI_of (j := 1) rfl hma, _, rfl, _, _, _, _, rfl, rfl, h1, ixN_of rfl (by rw [List.length_map, List.length_range]; omega), _, fun r j => if r = 1 ∧ j = i then pr 1 i * lsome ns (8 + i) 13 2 else pr r j, rfl, same_upd s4 (hA 1 x1 hx1).1, by rw [upd_ne hxP1.symm]; exact hP4, fun r x hx => ?_, fun r j => ?_⟩
        · by_cases hr : r = 1
          · subst hr
            have e9 : x = x1 := by rw [hx1] at hx; cases hx; rfl
            subst e9
            rw [upd_same, rm_set, hg1]
            congr 2
            refine List.map_congr_left fun j _ => ?_
            by_cases c : j = i
            · subst c
              rw [if_pos rfl]
              exact congrArg V.int (if_pos ⟨rfl, rfl⟩).symm
            · rw [if_neg c]
              exact congrArg V.int (if_neg (fun z => c z.2)).symm
          · have hxx : x ≠ x1 := fun z => hr (nd_ix hand hx (by rw [z]; exact hx1))
            rw [upd_ne hxx, hA4 r x hx]
            congr 2
            refine List.map_congr_left fun j _ => ?_
            exact congrArg V.int (if_neg (fun z => hr z.1)).symm
        · show KR (if r = 1 ∧ j = i then pr 1 i * lsome ns (8 + i) 13 2 else pr r j)
          split
          · have h01 : lsome ns (8 + i) 13 2 = 0 ∨ lsome ns (8 + i) 13 2 = 1 := by omega
            rcases h01 with h | h
            · rw [h, Int.mul_zero]
              exact ⟨by decide, by decide⟩
            · rw [h, Int.mul_one]
              exact hkr 1 i
          · exact hkr r j
      · rintro σ H4 ⟨v7, pr, rfl, s4, hP4, hA4, hkr⟩
        refine ⟨_, rfl, kQ lP as (fun r => (Lz.getD r 0).toNat) pr ((1 + lsome ns 0 3 40)).toNat H4 hP0 s4 hP4 hal hand hPa (fun r x hx => ⟨(hA r x hx).1, hA4 r x hx⟩) ?_⟩
        rw [← hLZ]
        exact ⟨by omega, by omega, rfl, rfl, ⟨by show 0 < (1 + lsome ns 0 4 12).toNat; omega, by show (1 + lsome ns 0 4 12).toNat ≤ 12; omega⟩, rfl, rfl, ⟨by show 0 < (1 + lsome ns 0 5 9).toNat; omega, by show (1 + lsome ns 0 5 9).toNat ≤ 9; omega⟩, ⟨by show 0 < (1 + lsome ns 0 6 3).toNat; omega, by show (1 + lsome ns 0 6 3).toNat ≤ 3; omega⟩, hkr⟩
    · skip
      refine ⟨_, rfl, a, ns, 0, 4, 12, rfl, hS, by decide, by decide, by decide, _, _, rfl, rfl, ?_⟩
      refine ⟨_, rfl, _, rfl, _, rfl, _, rfl, _, rfl, _, rfl, a, ns, 0, 5, 9, rfl, hS, by decide, by decide, by decide, _, _, rfl, rfl, _, rfl, a, ns, 0, 6, 3, rfl, hS, by decide, by decide, by decide, _, _, rfl, rfl, small_sz (by simp), fun lL hlL => ?_⟩
      have hLc : upd H lL (.lst (([(1 + lsome ns 0 1 8), (1 + lsome ns 0 1 8), (1 + lsome ns 0 4 12), (1 + lsome ns 0 1 8), (1 + lsome ns 0 1 8), (1 + lsome ns 0 5 9), (1 + lsome ns 0 6 3)] : List Int).map V.int)) lL = some (.lst (([(1 + lsome ns 0 1 8), (1 + lsome ns 0 1 8), (1 + lsome ns 0 4 12), (1 + lsome ns 0 1 8), (1 + lsome ns 0 1 8), (1 + lsome ns 0 5 9), (1 + lsome ns 0 6 3)] : List Int).map V.int)) := upd_same
      have u1 : Same H (upd H lL (.lst (([(1 + lsome ns 0 1 8), (1 + lsome ns 0 1 8), (1 + lsome ns 0 4 12), (1 + lsome ns 0 1 8), (1 + lsome ns 0 1 8), (1 + lsome ns 0 5 9), (1 + lsome ns 0 6 3)] : List Int).map V.int))) := same_new hlL
      have eL : HO.lst (([(1 + lsome ns 0 1 8), (1 + lsome ns 0 1 8), (1 + lsome ns 0 4 12), (1 + lsome ns 0 1 8), (1 + lsome ns 0 1 8), (1 + lsome ns 0 5 9), (1 + lsome ns 0 6 3)] : List Int).map V.int) = HO.lst [.int (1 + lsome ns 0 1 8), .int (1 + lsome ns 0 1 8), .int (1 + lsome ns 0 4 12), .int (1 + lsome ns 0 1 8), .int (1 + lsome ns 0 1 8), .int (1 + lsome ns 0 5 9), .int (1 + lsome ns 0 6 3)] := rfl
      rw [← eL]
      have hLb : ∀ x ∈ ([(1 + lsome ns 0 1 8), (1 + lsome ns 0 1 8), (1 + lsome ns 0 4 12), (1 + lsome ns 0 1 8), (1 + lsome ns 0 1 8), (1 + lsome ns 0 5 9), (1 + lsome ns 0 6 3)] : List Int), 1 ≤ x ∧ x ≤ 40 := fun x hx => by
        simp only [List.mem_cons, List.not_mem_nil, or_false] at hx
        rcases hx with rfl | rfl | rfl | rfl | rfl | rfl | rfl <;> omega
      generalize upd H lL (.lst (([(1 + lsome ns 0 1 8), (1 + lsome ns 0 1 8), (1 + lsome ns 0 4 12), (1 + lsome ns 0 1 8), (1 + lsome ns 0 1 8), (1 + lsome ns 0 5 9), (1 + lsome ns 0 6 3)] : List Int).map V.int)) = H1 at hLc u1 ⊢
      refine ⟨nil_sz, fun lP hlP => ?_⟩
      have hPc : upd H1 lP (.lst []) lP = some (.lst []) := upd_same
      have u2 : Same H1 (upd H1 lP (.lst [])) := same_new hlP
      have hLP : lL ≠ lP := fun z => by rw [← z, hLc] at hlP; cases hlP
      have hP0 : H lP = none := u1.free hlP
      generalize upd H1 lP (.lst []) = H2 at hPc u2 ⊢
      have hL2 := u2 _ _ hLc
      have u12 := u1.trans u2
      generalize hLZ : ([(1 + lsome ns 0 1 8), (1 + lsome ns 0 1 8), (1 + lsome ns 0 4 12), (1 + lsome ns 0 1 8), (1 + lsome ns 0 1 8), (1 + lsome ns 0 5 9), (1 + lsome ns 0 6 3)] : List Int) = Lz at *
      have hLl : Lz.length = 7 := by rw [← hLZ]; rfl
      refine ⟨_, rfl, lL, rfl, ⟨_, SqL.of hL2⟩, for_list (K := K) (a := lL) (xs := Lz.map V.int) (fun i σ H' => ∃ (v6 : Option V) (pl : Nat) (as : List Addr) (pr : Nat → Nat → Int), σ = [some (.ref a), some (.int (1 + lsome ns 0 1 8)), some (.int (1 + lsome ns 0 4 12)), some (.ref lL), some (.ref lP), some (.int (pl : Int)), v6, none] ∧ Same H H' ∧ H' lL = some (.lst (Lz.map V.int)) ∧ pl ≤ 8 + 40 * i ∧
          H' lP = some (.lst (as.map V.ref)) ∧ as.length = i ∧ as.Nodup ∧ lP ∉ as ∧ lL ∉ as ∧ (∀ (r : Nat) (x : Addr), as[r]? = some x → H x = none ∧ H' x = some (.lst ((List.range (Lz.getD r 0).toNat).map fun i => V.int (pr r i)))) ∧ ∀ r i, KR (pr r i))
        ⟨none, 8, [], fun _ _ => 0, rfl, u12, hL2, by omega, hPc, rfl, List.nodup_nil, by simp, by simp, by simp, fun _ _ => (⟨by decide, by decide⟩ : KR 0)⟩ (fun i σ H' _ ⟨_, _, _, _, _, _, h3, _⟩ => SqL.of h3) ?_ ?_⟩
      · rintro i y σ H3 hi ⟨v6, pl, as, pr, rfl, s3, hL3, hpl, hP3, hal, hand, hPa, hLa, hA, hkr⟩
        have hi7 : i < 7 := by
          have := (List.getElem?_eq_some_iff.mp hi).1
          rw [List.length_map, hLl] at this
          exact this
        obtain ⟨li, hli, rfl⟩ : ∃ li, Lz[i]? = some li ∧ y = .int li := by
          rw [List.getElem?_map] at hi
          cases hz : Lz[i]? with
          | none => rw [hz] at hi; cases hi
          | some z => rw [hz] at hi; cases hi; exact ⟨z, rfl, rfl⟩
        have hlb := hLb li (List.mem_of_getElem? hli)
        have hgd : Lz.getD i 0 = li := by rw [List.getD_eq_getElem?_getD, hli]; rfl
        refine ⟨_, rfl, lty hP3, _, rfl, _, rfl, by omega, by omega, fun D hD => ?_⟩
        refine comp_range hD (n := li.toNat) (fun j => V.int (lnum ns (pl + j))) (by omega) (fun j H' hj sx Q' q => ?_) (fun H4 s4 h4 => ?_)
        · refine ⟨_, rfl, _, rfl, _, rfl, _, _, rfl, rfl, a, ns, pl + j, ?_, (s3.trans sx).seq hS, by omega, q _ (Same.refl _)⟩
          show [V.ref a, V.int ((pl : Int) + (0 + (j : Int)))] ++ [] = [V.ref a, V.int ((pl + j : Nat) : Int)]
          rw [List.append_nil]
          congr 3
          push_cast
          omega
        have hP4 := s4 _ _ hP3
        have hDP : D ≠ lP := fun z => by rw [z, hP3] at hD; cases hD
        have hDL : D ≠ lL := fun z => by rw [z, hL3] at hD; cases hD
        have hDa : D ∉ as := fun hm => by
          obtain ⟨r, hr⟩ := List.mem_iff_getElem?.mp hm
          have := (hA r D hr).2
          rw [hD] at this
          cases this
        refine ⟨lP, _, _, rfl, rfl, hP4, by rw [List.length_map, hal]; exact sz_lt (by omega), ?_⟩
        have e5 : ((pl + li.toNat : Nat) : Int) = (pl : Int) + li := by omega
        refine ⟨_, rfl, _, rfl, _, _, rfl, rfl, _, pl + li.toNat, as ++ [D], fun r j => if r = i then lnum ns (pl + j) else pr r j, by rw [e5]; rfl, same_upd (s3.trans s4) hP0, by rw [upd_ne hLP]; exact s4 _ _ hL3, by omega, by rw [upd_same, List.map_append]; rfl, by rw [List.length_append, hal]; rfl, ?_, ?_, ?_, fun r x hx => ?_, fun r j => ?_⟩
        · refine List.nodup_append.mpr ⟨hand, by simp, fun u hu b hb => ?_⟩
          simp at hb
          subst hb
          exact fun z => hDa (by rw [← z]; exact hu)
        · intro hm
          rcases List.mem_append.mp hm with hm | hm
          · exact hPa hm
          · simp at hm
            exact hDP hm.symm
        · intro hm
          rcases List.mem_append.mp hm with hm | hm
          · exact hLa hm
          · simp at hm
            exact hDL hm.symm
        · by_cases hr : r < as.length
          · rw [List.getElem?_append_left hr] at hx
            obtain ⟨h5, h6⟩ := hA r x hx
            have hxP : x ≠ lP := fun z => hPa (by rw [← z]; exact List.mem_of_getElem? hx)
            refine ⟨h5, ?_⟩
            rw [upd_ne hxP, s4 _ _ h6]
            congr 2
            refine List.map_congr_left fun j _ => ?_
            exact congrArg V.int (if_neg (show ¬ r = i by omega)).symm
          · have hr2 : r = i := by
              have := (List.getElem?_eq_some_iff.mp hx).1
              rw [List.length_append] at this
              simp at this
              omega
            subst hr2
            rw [← hal, List.getElem?_append_right (Nat.le_refl _)] at hx
            simp at hx
            subst hx
            refine ⟨s3.free hD, ?_⟩
            rw [upd_ne hDP, h4, hgd]
            congr 2
            refine List.map_congr_left fun j _ => ?_
            exact congrArg V.int (if_pos rfl).symm
        · show KR (if r = i then lnum ns (pl + j) else pr r j)
          split
          · exact lnum_kr _ _
          · exact hkr r j
      rintro σ H3 ⟨v6, pl, as, pr, rfl, s3, hL3, hpl, hP3, hal, hand, hPa, hLa, hA, hkr⟩
      rw [List.length_map, hLl] at hal
      have hx1 : ∃ x1, as[1]? = some x1 := ⟨_, List.getElem?_eq_getElem (by omega)⟩
      obtain ⟨x1, hx1⟩ := hx1
      have hg1 : Lz.getD 1 0 = (1 + lsome ns 0 1 8) := by rw [← hLZ]; rfl
      have hxP1 : x1 ≠ lP := fun z => hPa (by rw [← z]; exact List.mem_of_getElem? hx1)
      refine ⟨_, rfl, _, rfl, by omega, by omega, ?_⟩
      refine for_range (fun i σ H' => ∃ (v7 : Option V) (pr : Nat → Nat → Int), σ = [some (.ref a), some (.int (1 + lsome ns 0 1 8)), some (.int (1 + lsome ns 0 4 12)), some (.ref lL), some (.ref lP), some (.int (pl : Int)), v6, v7] ∧ Same H H' ∧
          H' lP = some (.lst (as.map V.ref)) ∧ (∀ (r : Nat) (x : Addr), as[r]? = some x → H' x = some (.lst ((List.range (Lz.getD r 0).toNat).map fun i => V.int (pr r i)))) ∧ ∀ r i, KR (pr r i))
        ⟨none, pr, rfl, s3, hP3, fun r x h => (hA r x h).2, hkr⟩ ?_ ?_
      · rintro i σ H4 hi ⟨v7, pr, rfl, s4, hP4, hA4, hkr⟩
        have e0 : (0 : Int) + (i : Int) = (i : Int) := Int.zero_add _
        rw [e0]
        have h1 := hA4 1 x1 hx1
        rw [hg1] at h1
        have hma : (as.map V.ref)[1]? = some (.ref x1) := by rw [List.getElem?_map, hx1]; rfl
        have b13 := lsome_b ns (8 + i) 13 (many := 2) (by decide)
        have e8 : (8 : Int) + (i : Int) = ((8 + i : Nat) : Int) := by push_cast; rfl
        refine ⟨_, rfl, _, _, _, _, rfl, rfl, SqL.of hP4, atI_of (j := 1) rfl hma, _, rfl, _, _, _, _, rfl, rfl, SqL.of h1, atI_of rfl (rm_get (by omega)), ?_⟩
        refine ⟨_, rfl, _, rfl, _, _, rfl, rfl, a, ns, 8 + i, 13, 2, by rw [← e8]; rfl, s4.seq hS, by omega, by decide, by decide, _, _, rfl, rfl, (hkr 1 i).cmul _, ?_⟩
        refine ⟨_, rfl, _, _, _, _, rfl, rfl, SqL.of hP4, atI_of (j := 1) rfl hma, _, rfl, _, _, _, _, rfl, rfl, h1, ixN_of rfl (by rw [List.length_map, List.length_range]; omega), _, fun r j => if r = 1 ∧ j = i then pr 1 i * lsome ns (8 + i) 13 2 else pr r j, rfl, same_upd s4 (hA 1 x1 hx1).1, by rw [upd_ne hxP1.symm]; exact hP4, fun r x hx => ?_, fun r j => ?_⟩
        · by_cases hr : r = 1
          · subst hr
            have e9 : x = x1 := by rw [hx1] at hx; cases hx; rfl
            subst e9
            rw [upd_same, rm_set, hg1]
            congr 2
            refine List.map_congr_left fun j _ => ?_
            by_cases c : j = i
            · subst c
              rw [if_pos rfl]
              exact congrArg V.int (if_pos ⟨rfl, rfl⟩).symm
            · rw [if_neg c]
              exact congrArg V.int (if_neg (fun z => c z.2)).symm
          · have hxx : x ≠ x1 := fun z => hr (nd_ix hand hx (by rw [z]; exact hx1))
            rw [upd_ne hxx, hA4 r x hx]
            congr 2
            refine List.map_congr_left fun j _ => ?_
            exact congrArg V.int (if_neg (fun z => hr z.1)).symm
        · show KR (if r = 1 ∧ j = i then pr 1 i * lsome ns (8 + i) 13 2 else pr r j)
          split
          · have h01 : lsome ns (8 + i) 13 2 = 0 ∨ lsome ns (8 + i) 13 2 = 1 := by omega
            rcases h01 with h | h
            · rw [h, Int.mul_zero]
              exact ⟨by decide, by decide⟩
            · rw [h, Int.mul_one]
              exact hkr 1 i
          · exact hkr r j
      · rintro σ H4 ⟨v7, pr, rfl, s4, hP4, hA4, hkr⟩
        refine ⟨_, rfl, kQ lP as (fun r => (Lz.getD r 0).toNat) pr ((1 + lsome ns 0 1 8)).toNat H4 hP0 s4 hP4 hal hand hPa (fun r x hx => ⟨(hA r x hx).1, hA4 r x hx⟩) ?_⟩
        rw [← hLZ]
        exact ⟨by omega, by omega, rfl, rfl, ⟨by show 0 < (1 + lsome ns 0 4 12).toNat; omega, by show (1 + lsome ns 0 4 12).toNat ≤ 12; omega⟩, rfl, rfl, ⟨by show 0 < (1 + lsome ns 0 5 9).toNat; omega, by show (1 + lsome ns 0 5 9).toNat ≤ 9; omega⟩, ⟨by show 0 < (1 + lsome ns 0 6 3).toNat; omega, by show (1 + lsome ns 0 6 3).toNat ≤ 3; omega⟩, hkr⟩
theorem cal__law_parts {P : Program} {w : World} {K : PySem.W.Frag} {mg : Str → Option Value} {base : Heap} (T : Txt w K mg) : Cal P w K mg base 4 "_law_parts" ["_law_script"] (sp__law_parts K) := ⟨_, _, ok__law_parts T, T.g__law_parts, T.f__law_parts.kp, T.f__law_parts.bindsN (ps := ["_law_script"]) fun _ _ _ _ _ _ us hl => match us, hl with | [_], _ => rfl⟩
end Rb
end

section
set_option Elab.async false
set_option linter.all false
set_option maxRecDepth 100000
set_option maxHeartbeats 4000000
namespace Rb
open PySem PySem.Spec PyProof.Rows L2

def WS.step (W : WS) (st : Stp) : WS := match st with
  | .trim => W
  | st => W.played st
def WS.good (W : WS) (st : Stp) : Prop := st = .trim ∨ (W.ok st ∧ W.laid st ∧ st.pl = true)
inductive Runs : WS → List Stp → WS → Prop
  | nil (W : WS) : Runs W [] W
  | snoc {W0 W : WS} {l : List Stp} {st : Stp} (h : Runs W0 l W) (g : W.good st) : Runs W0 (l ++ [st]) (W.step st)
theorem step_pl {W : WS} {st : Stp} (h : st.pl = true) : W.step st = W.played st := by
  cases st <;> first | rfl | cases h
theorem step_keep {W : WS} {st : Stp} : (W.step st).nse = W.nse ∧ (W.step st).ln = W.ln ∧ (W.step st).pr = W.pr ∧ (W.step st).many = W.many := by
  cases st <;> exact ⟨rfl, rfl, rfl, rfl⟩
theorem Runs.keep {W0 W : WS} {l : List Stp} (h : Runs W0 l W) : W.nse = W0.nse ∧ W.ln = W0.ln ∧ W.pr = W0.pr ∧ W.many = W0.many := by
  induction h with
  | nil => exact ⟨rfl, rfl, rfl, rfl⟩
  | snoc h g ih =>
    obtain ⟨h1, h2, h3, h4⟩ := step_keep (W := _) (st := _)
    exact ⟨h1.trans ih.1, h2.trans ih.2.1, h3.trans ih.2.2.1, h4.trans ih.2.2.2⟩
theorem WA.fresh {H0 H : Hp} {ad : Rw → Addr} {W : WS} (A : WA H0 ad W H) {l : Addr} {o : HO} (h : H0 l = some o) : ∀ r, W.rok r = true → l ≠ ad r := fun r hr z => by
  rw [z, A.off r hr] at h
  cases h
theorem off_keep {H : Hp} {ad : Rw → Addr} {W : WS} {l : Addr} {o : HO} (hr : ∀ r, W.rok r = true → l ≠ ad r) (h : H l = some o) : offW ad W H l = some o := by
  rw [offW_out hr]
  exact h
theorem iteB {b : Bool} {A B : Prop} (h1 : b = true → A) (h2 : b = false → B) : if b = true then A else B := by
  cases b with
  | true => exact h1 rfl
  | false => exact h2 rfl
theorem lastb (x : Int) : 14 ≤ 8 + (if (if x > 6 then x else 6) < 55 then (if x > 6 then x else 6) else 55) ∧ 8 + (if (if x > 6 then x else 6) < 55 then (if x > 6 then x else 6) else 55) ≤ 63 := by
  by_cases h : x > 6
  · rw [if_pos h]
    split <;> omega
  · rw [if_neg h]
    decide
theorem mmb {L n : Int} (h : 14 ≤ L ∧ L ≤ 63) (hn : 0 ≤ n ∧ n ≤ 63) : -2 ^ 62 ≤ (8 : Int) ∧ (8 : Int) < 2 ^ 62 ∧ -2 ^ 62 ≤ (if L < n then L else n) ∧ (if L < n then L else n) < 2 ^ 62 := by
  refine ⟨by decide, by decide, ?_, ?_⟩ <;> split <;> omega
theorem mmk {L n : Int} {i : Nat} (h : i < ((if L < n then L else n) - 8).toNat) : 8 + (i : Int) < n := by
  split at h <;> omega
theorem mmn {L n : Int} (h : 14 ≤ L ∧ L ≤ 63) : ((if L < n then L else n) - 8).toNat + 1 ≤ 56 := by
  split <;> omega
def sp__law_steps (K : PySem.W.Frag) : Sp := fun vs H Q _ => ∃ (H0 : Hp) (ad : Rw → Addr) (W : WS) (a : Addr) (ns : List Int) (side : Nat), vs = [.ref a, .ref (ad .wd), .ref (ad .pl), .int W.nse, .int side] ∧ WA H0 ad W H ∧ SqL K H0 a (ns.map V.int) ∧ ns.length ≤ 63 ∧ 2 ≤ W.nse ∧ 0 < side ∧ side ≤ 1000 ∧ (∀ q e, q < W.nse → e < W.many → W.se q e ≠ none) ∧
  ∀ (H0' : Hp) (ad' : Rw → Addr) (W' : WS) (cs : List (Addr × Stp)) (p : Addr) (H' : Hp) (body : List Stp), Same H0 H0' → ad' .wd = ad .wd → ad' .pl = ad .pl → WA H0' ad' W' H' → H0' p = some (.lst (cs.map fun q => V.ref q.1)) → (∀ q ∈ cs, H0' q.1 = some (.tup q.2.vals)) → cs.map (·.2) = ((List.range W.nse).map fun p => Stp.load p (p % 2) 0) ++ body → Runs W body W' → body.length ≤ 56 → Q (.ref p) H'
theorem sc__law_steps : FnScope ["_law_script", "_law_world", "_law_parts_here", "_law_seats", "_law_side", "_law_steps_here", "_law_last", "_law_wild", "_law_k", "_law_step_here", "_law_calm", "_law_p"] ["_law_script", "_law_world", "_law_parts_here", "_law_seats", "_law_side"] (defScope s__law_steps) := ⟨rfl, rfl, rfl, by decide +kernel, rfl, by decide +kernel, by decide +kernel⟩
theorem ok__law_steps {P : Program} {w : World} {K : PySem.W.Frag} {mg : Str → Option Value} {base : Heap} (T : Txt w K mg) : FnOk P w K mg base CX0 5 (ad__law_steps K) (fdOf K (ad__law_steps K)) ["_law_script", "_law_world", "_law_parts_here", "_law_seats", "_law_side"] (sp__law_steps K) := by
  have C__law_played := cal__law_played (P := P) (base := base) T
  have C__law_faults := cal__law_faults (P := P) (base := base) T
  have C__law_reads_laid := cal__law_reads_laid (P := P) (base := base) T
  have C__law_number := cal__law_number (P := P) (base := base) T
  have C__law_some := cal__law_some (P := P) (base := base) T
  have C__law_step := cal__law_step (P := P) (base := base) T
  refine T.f__law_steps.ok sc__law_steps (fun vs H Q E h => ?_) (fun cdv A outer s H vs Q E hr h => ?_)
  · obtain ⟨_, _, _, _, _, _, rfl, _⟩ := h
    rfl
  · have hu := hu_of hr
    have nd := sc__law_steps.nd
    refine ⟨_, PSs.nox ((pss_cons (ps_set (i := 5) nd rfl (Or.inl rfl) (pe_op op_cat (pe_lc (own := [("_law_p", 11)]) (g := gName 11) rfl nd (pi_range1 rfl T.b_range (pa_cons (pv 3) pa_nil)) (blkOk_by (N := ["_law_script", "_law_world", "_law_parts_here", "_law_seats", "_law_side", "_law_steps_here", "_law_last", "_law_wild", "_law_k", "_law_step_here", "_law_calm", "_law_p"]) (sc := defScope s__law_steps) (by decide +kernel)) (fun _ _ _ _ _ => pg_name (i := 11) nd rfl (Or.inl rfl)) (fun _ _ _ _ _ => pts_nil) (fun _ _ _ _ _ => (pe_tup (pa_cons pe_str (pa_cons (pv 11) (pa_cons (pe_op op_mod (pv 11) pe_int) (pa_cons pe_int pa_nil))))))) (pe_lst (pa_cons (pe_tup (pa_cons pe_str (pa_cons (pe_op op_add pe_int (pe_cl C__law_some (hr.mono (by decide)) (pa_cons (pv 0) (pa_cons pe_int (pa_cons pe_int (pa_cons pe_int pa_nil)))))) (pa_cons pe_int (pa_cons pe_int pa_nil))))) pa_nil))))
      (pss_cons (ps_expr (pe_cl C__law_played (hr.mono (by decide)) (pa_cons (pv 1) (pa_cons (pe_ix ix_list (pv 5) (pv 3) (fun _ _ => rfl)) (pa_cons (pv 2) pa_nil)))))
      (pss_cons (ps_set (i := 6) nd rfl (Or.inl rfl) (pe_op op_add pe_int (pe_callB (call_min2 rfl) rfl T.b_min (by decide +kernel) (pa_cons pe_int (pa_cons (pe_callB (call_max2 rfl) rfl T.b_max (by decide +kernel) (pa_cons pe_int (pa_cons (pe_op op_fdiv pe_int (pv 4)) pa_nil))) pa_nil)))))
      (pss_cons (ps_set (i := 7) nd rfl (Or.inl rfl) (pe_cmpR op_eq (pe_cl C__law_some (hr.mono (by decide)) (pa_cons (pv 0) (pa_cons pe_int (pa_cons pe_int (pa_cons pe_int pa_nil))))) pe_int (nomark _)))
      (pss_cons (ps_for PassesOwn.never rfl (pi_range2 rfl T.b_range (pa_cons pe_int (pa_cons (pe_callB (call_min2 rfl) rfl T.b_min (by decide +kernel) (pa_cons (pe_callB call_len_seq rfl T.b_len PySem.boot_len (pa_cons (pv 0) pa_nil)) (pa_cons (pv 6) pa_nil))) pa_nil))) (pg_name (i := 8) nd rfl (Or.inl rfl))
      (pss_cons (ps_set (i := 9) nd rfl (Or.inl rfl) (pe_cl C__law_step (hr.mono (by decide)) (pa_cons (pv 0) (pa_cons (pv 8) (pa_cons (pv 3) (pa_cons (pe_callTy (call_listD rfl) rfl T.b_list (by decide +kernel) (pa_cons (pe_dget hu (pv 1) pe_str (fun _ _ => rfl)) pa_nil)) pa_nil))))))
      (pss_cons (ps_if (pt_cmpR op_ne (pe_ix ix_tup (pv 9) pe_int (fun _ _ => rfl)) pe_str (nomark _))
      (pss_cons (ps_set (i := 10) nd rfl (Or.inl rfl) (pe_or (pe_not (pv 7)) (pe_one (pe_cmpR op_gt (pe_cl C__law_some (hr.mono (by decide)) (pa_cons (pv 0) (pa_cons (pv 8) (pa_cons pe_int (pa_cons pe_int pa_nil))))) pe_int (nomark _)))))
      (pss_cons (ps_if (PW.pt (pw_or (pt_not (pt_val (pe_cl C__law_reads_laid (hr.mono (by decide)) (pa_cons (pv 1) (pa_cons (pv 9) pa_nil))))) (pw_or1 (PW.pt (pw_and (pt_val (pv 10)) (pw_and1 (pt_val (pe_cl C__law_faults (hr.mono (by decide)) (pa_cons (pv 1) (pa_cons (pv 9) (pa_cons (pv 2) pa_nil)))))))))))
      (pss_one (ps_set (i := 9) nd rfl (Or.inl rfl) (pe_tup (pa_cons pe_str (pa_cons (pe_cl C__law_some (hr.mono (by decide)) (pa_cons (pv 0) (pa_cons (pv 8) (pa_cons pe_int (pa_cons (pv 3) pa_nil))))) (pa_cons (pe_cl C__law_number (hr.mono (by decide)) (pa_cons (pv 0) (pa_cons (pv 8) pa_nil))) (pa_cons (pe_ix ix_tup (pv 9) (pe_un un_neg pe_int) (fun _ _ => rfl)) pa_nil)))))))
      pss_nil)
      (pss_one (ps_expr (pe_cl C__law_played (hr.mono (by decide)) (pa_cons (pv 1) (pa_cons (pv 9) (pa_cons (pv 2) pa_nil))))))))
      pss_nil)
      (pss_one (ps_expr (pe_bm PySem.F.plainAttrs_list PySem.F.slot_list_append PySem.F.type_list_append mt_append (pv 5) (pa_cons (pv 9) pa_nil)))))))
      (pss_one (ps_ret (pv 5))))))))), ?_⟩
    obtain ⟨H0, ad, W, a, ns, side, rfl, A, hS0, hns, hn2, hs0, hs1, hse, kQ⟩ := h
    have hn8 := A.wf.n8
    have hS := A.same.seq hS0
    refine ⟨_, rfl, _, rfl, by omega, by omega, fun D hD => ?_⟩
    rw [Int.toNat_natCast]
    refine comp_rangeA hD (fun i => .tup (Stp.load i (i % 2) 0).vals) (by omega) (fun i H' hi sx Q' q => ?_) (fun H1 as s1 h1 hal hand hDa hA => ?_)
    · have e0 : (0 : Int) + (i : Int) = (i : Int) := Int.zero_add _
      rw [e0]
      refine ⟨_, rfl, _, rfl, _, _, rfl, rfl, (by show (0 : Int) < 2; decide), small_sz (by simp), fun p hp => q p _ hp (same_new hp) ?_⟩
      rw [upd_same]
      show some (HO.tup [.str "load", .int (i : Int), .int ((i : Int) % 2), .int 0]) = some (HO.tup [.str "load", .int (i : Int), .int ((i % 2 : Nat) : Int), .int ((0 : Nat) : Int)])
      rw [show ((i % 2 : Nat) : Int) = (i : Int) % 2 by omega]
      rfl
    obtain ⟨z15, hz15, ez15⟩ := ls_nat ns 3 3 (n := 15) (by decide)
    refine ⟨_, rfl, a, ns, 3, 3, 15, rfl, s1.seq hS, by decide, by decide, by decide, ?_⟩
    rw [show lsome ns 3 3 15 = (z15 : Int) from ez15]
    refine ⟨_, _, rfl, rfl, small_sz (by simp), fun tc htc => ?_⟩
    have htcc : upd H1 tc (.tup (Stp.choose (1 + z15) 1 0).vals) tc = some (.tup (Stp.choose (1 + z15) 1 0).vals) := upd_same
    have u1 : Same H1 (upd H1 tc (.tup (Stp.choose (1 + z15) 1 0).vals)) := same_new htc
    have ech : HO.tup (Stp.choose (1 + z15) 1 0).vals = HO.tup [.str "choose", .int (1 + (z15 : Int)), .int 1, .int 0] := by
      show HO.tup [.str "choose", .int ((1 + z15 : Nat) : Int), .int ((1 : Nat) : Int), .int ((0 : Nat) : Int)] = _
      rw [show ((1 + z15 : Nat) : Int) = 1 + (z15 : Int) by push_cast; rfl]
      rfl
    have ech2 : ∀ {P : Hp → Prop}, P (upd H1 tc (.tup (Stp.choose (1 + z15) 1 0).vals)) → P (upd H1 tc (.tup [.str "choose", .int (1 + (z15 : Int)), .int 1, .int 0])) := fun {P} h => by
      rw [← ech]
      exact h
    refine ech2 ?_
    generalize upd H1 tc (.tup (Stp.choose (1 + z15) 1 0).vals) = H2 at htcc u1 ⊢
    refine ⟨small_sz (by simp), fun l2 hl2 => ?_⟩
    have hl2c : upd H2 l2 (.lst [.ref tc]) l2 = some (.lst [.ref tc]) := upd_same
    have u2 : Same H2 (upd H2 l2 (.lst [.ref tc])) := same_new hl2
    generalize upd H2 l2 (.lst [.ref tc]) = H3 at hl2c u2 ⊢
    refine ⟨D, l2, _, _, rfl, rfl, u2 _ _ (u1 _ _ h1), hl2c, by rw [List.length_map, hal]; exact sz_le (by show W.nse + 1 ≤ 1000000; omega), fun lS hlS => ?_⟩
    have hlSc : upd H3 lS (.lst (as.map V.ref ++ [.ref tc])) lS = some (.lst (as.map V.ref ++ [.ref tc])) := upd_same
    have u3 : Same H3 (upd H3 lS (.lst (as.map V.ref ++ [.ref tc]))) := same_new hlS
    generalize upd H3 lS (.lst (as.map V.ref ++ [.ref tc])) = H4 at hlSc u3 ⊢
    have s14 := (u1.trans u2).trans u3
    have s04 := s1.trans s14
    have A4 := A.sm s04
    have hlSH : H lS = none := s1.free (u1.free (u2.free hlS))
    have hlS0 : H0 lS = none := A.same.free hlSH
    have htc0 := A4.out_tup (u3 _ _ (u2 _ _ htcc))
    have okC : W.ok (.choose (1 + z15) 1 0) := ⟨A.wf.k0, by show 1 < W.nse; omega, by show 1 + z15 < 16; omega⟩
    have laidC : W.laid (.choose (1 + z15) 1 0) := fun e he hm => by
      rcases List.mem_singleton.mp hm with h
      exact hse 1 e (by omega) (mem_wact.mp he).1 h.symm
    refine ⟨_, rfl, _, rfl, _, rfl, _, _, _, _, rfl, rfl, SqL.of hlSc, atI_of rfl (by rw [List.getElem?_append_right (by rw [List.length_map, hal]; exact Nat.le_refl _), List.length_map, hal, Nat.sub_self]; rfl), _, rfl, ?_⟩
    refine ⟨_, ad, W, tc, .choose (1 + z15) 1 0, .ref (ad .pl), rfl, A4.rebase, htc0, okC, laidC, rfl, fun _ => rfl, fun ad1 HP e1 e2 AP => ?_⟩
    have lSoff := off_keep (A.new_off hlSH) hlSc
    have lSP := AP.same _ _ lSoff
    have lSf := AP.fresh lSoff
    have AP0 := AP.weaken A4.back
    have hcs0 : ∀ q ∈ (as.zip ((List.range W.nse).map fun p => Stp.load p (p % 2) 0)) ++ [(tc, Stp.choose (1 + z15) 1 0)], HP q.1 = some (.tup q.2.vals) := fun q hq => by
      rcases List.mem_append.mp hq with hq | hq
      · obtain ⟨j, hj⟩ := List.mem_iff_getElem?.mp hq
        rw [List.getElem?_zip_eq_some] at hj
        obtain ⟨hj1, hj2⟩ := hj
        have hjn : j < W.nse := by
          have := (List.getElem?_eq_some_iff.mp hj1).1
          omega
        rw [rm_get hjn] at hj2
        have hj3 := Option.some.inj hj2
        rw [← hj3]
        have := (hA j q.1 hj1).2
        exact AP.same _ _ (A4.out_tup (s14 _ _ this))
      · rw [List.mem_singleton.mp hq]
        exact AP.same _ _ htc0
    have hzl : ((List.range W.nse).map fun p => Stp.load p (p % 2) 0).length = as.length := by rw [List.length_map, List.length_range, hal]
    have hcsm : (((as.zip ((List.range W.nse).map fun p => Stp.load p (p % 2) 0)) ++ [(tc, Stp.choose (1 + z15) 1 0)]).map fun q => V.ref q.1) = as.map V.ref ++ [.ref tc] := by
      rw [List.map_append]
      congr 1
      have e7 := List.map_fst_zip (l₁ := as) (l₂ := (List.range W.nse).map fun p => Stp.load p (p % 2) 0) (by omega)
      conv => rhs; rw [← e7]
      rw [List.map_map]
      rfl
    have hcs2 : (((as.zip ((List.range W.nse).map fun p => Stp.load p (p % 2) 0)) ++ [(tc, Stp.choose (1 + z15) 1 0)]).map (·.2)) = ((List.range W.nse).map fun p => Stp.load p (p % 2) 0) ++ [.choose (1 + z15) 1 0] := by
      rw [List.map_append]
      congr 1
      exact List.map_snd_zip (by omega)
    have runs0 : Runs W [.choose (1 + z15) 1 0] (W.played (.choose (1 + z15) 1 0)) := by
      have := Runs.snoc (Runs.nil W) (st := .choose (1 + z15) 1 0) (.inr ⟨okC, laidC, rfl⟩)
      exact this
    have keep0 : (W.played (.choose (1 + z15) 1 0)).nse = W.nse ∧ (W.played (.choose (1 + z15) 1 0)).many = W.many := ⟨rfl, rfl⟩
    have hSP : SqL K HP a (ns.map V.int) := AP0.same.seq hS0
    generalize as.zip ((List.range W.nse).map fun p => Stp.load p (p % 2) 0) ++ [(tc, Stp.choose (1 + z15) 1 0)] = cs0 at hcs0 hcsm hcs2
    rw [← hcsm] at lSP
    -- last, wild
    refine ⟨_, rfl, _, _, rfl, rfl, ⟨by omega, by omega⟩, _, _, rfl, _, _, rfl, _, _, rfl, rfl, ?_⟩
    refine ⟨_, rfl, a, ns, 4, 1, 3, rfl, hSP, by decide, by decide, by decide, rfl, ?_⟩
    refine ⟨_, rfl, a, _, rfl, .inl hSP, _, rfl, _, _, rfl, ?_⟩
    have hLb := lastb (2000 / (side : Int))
    refine ⟨_, _, rfl, mmb hLb (by rw [List.length_map]; omega), ?_⟩
    refine for_range (fun i σ H' => ∃ (v6 v8 v9 v10 : Option V), σ = [some (.ref a), some (.ref (ad .wd)), some (.ref (ad .pl)), some (.int (W.nse : Int)), some (.int (side : Int)), some (.ref lS), v6, some (.bl (decide (V.int (lsome ns 4 1 3) = V.int 0))), v8, v9, v10, none] ∧ ∃ (ad' : Rw → Addr) (W' : WS) (cs : List (Addr × Stp)) (body : List Stp), ad' .wd = ad .wd ∧ ad' .pl = ad .pl ∧ WA H0 ad' W' H' ∧ (∀ r, W'.rok r = true → lS ≠ ad' r) ∧ H' lS = some (.lst (cs.map fun q => V.ref q.1)) ∧ (∀ q ∈ cs, H' q.1 = some (.tup q.2.vals)) ∧ cs.map (·.2) = ((List.range W.nse).map fun p => Stp.load p (p % 2) 0) ++ body ∧ Runs W body W' ∧ body.length ≤ i + 1 ∧ cs.length ≤ W.nse + (i + 1))
      ⟨_, _, _, _, rfl, ad1, _, cs0, [.choose (1 + z15) 1 0], e1, e2, AP0, lSf, lSP, hcs0, hcs2, runs0, Nat.le_refl _, by have := congrArg List.length hcs2; rw [List.length_map, List.length_append, List.length_map, List.length_range] at this; rw [this]; exact Nat.le_refl _⟩ ?_ ?_
    · rintro i σ H' hi ⟨v6, v8, v9, v10, rfl, ad', W', cs, body, f1, f2, A', lSf', lSH', hcs', hcm', run', hbl, hcl⟩
      have hk63 := mmk hi
      rw [List.length_map] at hk63
      have hkn := Runs.keep run'
      have hnse' : W'.nse = W.nse := hkn.1
      have hS' := A'.same.seq hS0
      have d3 := A'.d3
      rw [f1] at d3
      refine ⟨_, rfl, _, rfl, _, rfl, _, rfl, _, _, rfl, d3, _, _, rfl, .inl (A'.at_ .md rfl), fun lk hlk => ?_⟩
      rw [List.map_map]
      have ek : (List.map ((fun kv : Key × V => kV kv.1) ∘ fun (k : Nat) => ((Sum.inl (k : Int) : Key), V.ref (ad' (.mask k)))) W'.ks) = W'.ks.map fun (k : Nat) => V.int (k : Int) := rfl
      rw [ek]
      have hlkc : upd H' lk (.lst (W'.ks.map fun (k : Nat) => V.int (k : Int))) lk = some (.lst (W'.ks.map fun (k : Nat) => V.int (k : Int))) := upd_same
      have sk : Same H' (upd H' lk (.lst (W'.ks.map fun (k : Nat) => V.int (k : Int)))) := same_new hlk
      generalize upd H' lk (.lst (W'.ks.map fun (k : Nat) => V.int (k : Int))) = Hk at hlkc sk ⊢
      refine ⟨a, ns, 8 + i, W', lk, by rw [hnse']; rfl, sk.seq hS', by omega, by omega, List.ne_nil_of_mem A'.wf.k0, SqL.of hlkc, fun st sa H3' hsa sk3 hst hok => ?_⟩
      have s3 := sk.trans sk3
      have hst3 := hst
      rcases hok with rfl | ⟨ok, pl⟩
      · refine ⟨_, rfl, _, _, _, _, rfl, rfl, SqT.of hst, Stp.at0 _, rfl, _, rfl, iteNF rfl ?_⟩
        have lS3 := s3 _ _ lSH'
        refine ⟨_, rfl, lty lS3, _, rfl, lS, _, _, rfl, rfl, lS3, by rw [List.length_map]; exact sz_lt (by omega), ?_⟩
        exact ⟨_, _, _, _, rfl, ad', W', cs ++ [(sa, .trim)], body ++ [.trim], f1, f2, (A'.sm s3).wr lSf' hlS0, lSf', by rw [upd_same, List.map_append]; rfl, fun q hq => by
          have hq2 : H3' q.1 = some (.tup q.2.vals) := by
            rcases List.mem_append.mp hq with hq | hq
            · exact s3 _ _ (hcs' q hq)
            · rw [List.mem_singleton.mp hq]
              exact hst
          rw [upd_ne (fun z => by rw [z, lS3] at hq2; cases hq2)]
          exact hq2, by rw [List.map_append, hcm']; simp, Runs.snoc run' (.inl rfl), by rw [List.length_append]; show body.length + 1 ≤ _; omega, by rw [List.length_append]; show cs.length + 1 ≤ _; omega⟩
      · have hnt : st.word ≠ "trim" := by
          cases st <;> first | (cases pl; done) | (simp only [Stp.word]; decide +kernel)
        refine ⟨_, rfl, _, _, _, _, rfl, rfl, SqT.of hst, st.at0, rfl, _, rfl, iteNS' (fun z => hnt (V.str.inj z)) ?_⟩
        refine ⟨_, rfl, _, rfl, _, rfl, ?_⟩
        by_cases hw : V.int (lsome ns 4 1 3) = V.int 0
        · rw [decide_eq_true hw]
          refine ⟨_, rfl, _, rfl, a, ns, 8 + i, 12, 3, rfl, s3.seq hS', by omega, by decide, by decide, _, _, rfl, rfl, ?_⟩
          have A3 := A'.sm s3
          refine ⟨_, rfl, _, rfl, offW ad' W' H3', ad', W', sa, st, by rw [f1]; rfl, A3.rebase, A3.out_tup hst, ok, fun b H5 s5 hb => ⟨_, rfl, ?_⟩⟩
          cases b with
          | false =>
            have sN2 := s5
            have bq2 := lsome_b ns (8 + i) 2 (many := (W.nse : Int)) (by omega)
            obtain ⟨pn, hpn, epn⟩ := ls_nat ns (8 + i) 2 (n := W.nse) (by omega)
            refine ⟨_, rfl, _, rfl, _, rfl, a, ns, 8 + i, 2, W.nse, rfl, (s3.trans s5).seq hS', by omega, by decide, by omega, ?_⟩
            rw [epn]
            refine ⟨_, rfl, _, rfl, a, ns, 8 + i, rfl, (s3.trans s5).seq hS', by omega, _, rfl, _, rfl, _, _, _, _, rfl, rfl, SqT.of (sN2 _ _ hst), Stp.atM ok.eff, small_sz (by simp), fun tn htn => ?_⟩
            have htnc : upd H5 tn (.tup (Stp.number pn (lnum ns (8 + i)) st.mask).vals) tn = some (.tup (Stp.number pn (lnum ns (8 + i)) st.mask).vals) := upd_same
            have un : Same H5 (upd H5 tn (.tup (Stp.number pn (lnum ns (8 + i)) st.mask).vals)) := same_new htn
            have ent : HO.tup (Stp.number pn (lnum ns (8 + i)) st.mask).vals = HO.tup [.str "number", .int (pn : Int), .int (lnum ns (8 + i)), .int (st.mask : Int)] := rfl
            rw [← ent]
            generalize upd H5 tn (.tup (Stp.number pn (lnum ns (8 + i)) st.mask).vals) = HN at htnc un ⊢
            refine ⟨_, rfl, _, rfl, _, rfl, offW ad' W' HN, ad', W', tn, Stp.number pn (lnum ns (8 + i)) st.mask, .ref (ad' .pl), by rw [f1, f2]; rfl, (A'.sm ((s3.trans s5).trans un)).rebase, (A'.sm ((s3.trans s5).trans un)).out_tup (htnc), (⟨ok.1, by rw [hnse']; exact hpn, lnum_kr ns _⟩ : W'.ok (Stp.number pn (lnum ns (8 + i)) st.mask)), (fun e he hm => by cases hm), rfl, fun _ => rfl, fun ad2 HQ g1 g2 AQ => ?_⟩
            have lSo := off_keep lSf' (((s3.trans s5).trans un) _ _ lSH')
            have lSQ := AQ.same _ _ lSo
            have lSf2 := AQ.fresh lSo
            refine ⟨_, rfl, lty lSQ, _, rfl, lS, _, _, rfl, rfl, lSQ, by rw [List.length_map]; exact sz_lt (by omega), ?_⟩
            exact ⟨_, _, _, _, rfl, ad2, W'.played (Stp.number pn (lnum ns (8 + i)) st.mask), cs ++ [(tn, Stp.number pn (lnum ns (8 + i)) st.mask)], body ++ [Stp.number pn (lnum ns (8 + i)) st.mask], g1.trans f1, g2.trans f2, (AQ.weaken (A'.sm ((s3.trans s5).trans un)).back).wr lSf2 hlS0, lSf2, by rw [upd_same, List.map_append]; rfl, fun q hq => by
              have hq2 : HQ q.1 = some (.tup q.2.vals) := by
                rcases List.mem_append.mp hq with hq | hq
                · exact AQ.same _ _ ((A'.sm ((s3.trans s5).trans un)).out_tup (((s3.trans s5).trans un) _ _ (hcs' q hq)))
                · rw [List.mem_singleton.mp hq]
                  exact AQ.same _ _ ((A'.sm ((s3.trans s5).trans un)).out_tup (htnc))
              rw [upd_ne (fun z => by rw [z, lSQ] at hq2; cases hq2)]
              exact hq2, by rw [List.map_append, hcm']; simp, by rw [← step_pl (rfl)]; exact Runs.snoc run' (.inr ⟨(⟨ok.1, by rw [hnse']; exact hpn, lnum_kr ns _⟩ : W'.ok (Stp.number pn (lnum ns (8 + i)) st.mask)), (fun e he hm => by cases hm), rfl⟩), by rw [List.length_append]; show body.length + 1 ≤ _; omega, by rw [List.length_append]; show cs.length + 1 ≤ _; omega⟩
          | true =>
            have laid := hb.mp rfl
            refine ⟨_, rfl, _, rfl, iteB (fun hcb => ?_) (fun hcb => ?_)⟩
            · refine ⟨_, rfl, _, rfl, _, rfl, offW ad' W' H3', ad', W', sa, st, .ref (ad' .pl), by rw [f1, f2]; rfl, A3.rebase.sm s5, A3.out_tup hst, ok, laid, fun _ => rfl, fun b2 H6 s6 hb2 => ⟨_, rfl, ?_⟩⟩
              cases b2 with
              | true =>
                have sN2 := s5.trans s6
                have bq2 := lsome_b ns (8 + i) 2 (many := (W.nse : Int)) (by omega)
                obtain ⟨pn, hpn, epn⟩ := ls_nat ns (8 + i) 2 (n := W.nse) (by omega)
                refine ⟨_, rfl, _, rfl, _, rfl, a, ns, 8 + i, 2, W.nse, rfl, ((s3.trans s5).trans s6).seq hS', by omega, by decide, by omega, ?_⟩
                rw [epn]
                refine ⟨_, rfl, _, rfl, a, ns, 8 + i, rfl, ((s3.trans s5).trans s6).seq hS', by omega, _, rfl, _, rfl, _, _, _, _, rfl, rfl, SqT.of (sN2 _ _ hst), Stp.atM ok.eff, small_sz (by simp), fun tn htn => ?_⟩
                have htnc : upd H6 tn (.tup (Stp.number pn (lnum ns (8 + i)) st.mask).vals) tn = some (.tup (Stp.number pn (lnum ns (8 + i)) st.mask).vals) := upd_same
                have un : Same H6 (upd H6 tn (.tup (Stp.number pn (lnum ns (8 + i)) st.mask).vals)) := same_new htn
                have ent : HO.tup (Stp.number pn (lnum ns (8 + i)) st.mask).vals = HO.tup [.str "number", .int (pn : Int), .int (lnum ns (8 + i)), .int (st.mask : Int)] := rfl
                rw [← ent]
                generalize upd H6 tn (.tup (Stp.number pn (lnum ns (8 + i)) st.mask).vals) = HN at htnc un ⊢
                refine ⟨_, rfl, _, rfl, _, rfl, offW ad' W' HN, ad', W', tn, Stp.number pn (lnum ns (8 + i)) st.mask, .ref (ad' .pl), by rw [f1, f2]; rfl, (A'.sm (((s3.trans s5).trans s6).trans un)).rebase, (A'.sm (((s3.trans s5).trans s6).trans un)).out_tup (htnc), (⟨ok.1, by rw [hnse']; exact hpn, lnum_kr ns _⟩ : W'.ok (Stp.number pn (lnum ns (8 + i)) st.mask)), (fun e he hm => by cases hm), rfl, fun _ => rfl, fun ad2 HQ g1 g2 AQ => ?_⟩
                have lSo := off_keep lSf' ((((s3.trans s5).trans s6).trans un) _ _ lSH')
                have lSQ := AQ.same _ _ lSo
                have lSf2 := AQ.fresh lSo
                refine ⟨_, rfl, lty lSQ, _, rfl, lS, _, _, rfl, rfl, lSQ, by rw [List.length_map]; exact sz_lt (by omega), ?_⟩
                exact ⟨_, _, _, _, rfl, ad2, W'.played (Stp.number pn (lnum ns (8 + i)) st.mask), cs ++ [(tn, Stp.number pn (lnum ns (8 + i)) st.mask)], body ++ [Stp.number pn (lnum ns (8 + i)) st.mask], g1.trans f1, g2.trans f2, (AQ.weaken (A'.sm (((s3.trans s5).trans s6).trans un)).back).wr lSf2 hlS0, lSf2, by rw [upd_same, List.map_append]; rfl, fun q hq => by
                  have hq2 : HQ q.1 = some (.tup q.2.vals) := by
                    rcases List.mem_append.mp hq with hq | hq
                    · exact AQ.same _ _ ((A'.sm (((s3.trans s5).trans s6).trans un)).out_tup ((((s3.trans s5).trans s6).trans un) _ _ (hcs' q hq)))
                    · rw [List.mem_singleton.mp hq]
                      exact AQ.same _ _ ((A'.sm (((s3.trans s5).trans s6).trans un)).out_tup (htnc))
                  rw [upd_ne (fun z => by rw [z, lSQ] at hq2; cases hq2)]
                  exact hq2, by rw [List.map_append, hcm']; simp, by rw [← step_pl (rfl)]; exact Runs.snoc run' (.inr ⟨(⟨ok.1, by rw [hnse']; exact hpn, lnum_kr ns _⟩ : W'.ok (Stp.number pn (lnum ns (8 + i)) st.mask)), (fun e he hm => by cases hm), rfl⟩), by rw [List.length_append]; show body.length + 1 ≤ _; omega, by rw [List.length_append]; show cs.length + 1 ≤ _; omega⟩
              | false =>
                skip
                refine ⟨_, rfl, _, rfl, _, rfl, offW ad' W' H6, ad', W', sa, st, .ref (ad' .pl), by rw [f1, f2]; rfl, (A'.sm ((s3.trans s5).trans s6)).rebase, (A'.sm ((s3.trans s5).trans s6)).out_tup (s6 _ _ (s5 _ _ hst)), ok, laid, pl, fun _ => rfl, fun ad2 HQ g1 g2 AQ => ?_⟩
                have lSo := off_keep lSf' (((s3.trans s5).trans s6) _ _ lSH')
                have lSQ := AQ.same _ _ lSo
                have lSf2 := AQ.fresh lSo
                refine ⟨_, rfl, lty lSQ, _, rfl, lS, _, _, rfl, rfl, lSQ, by rw [List.length_map]; exact sz_lt (by omega), ?_⟩
                exact ⟨_, _, _, _, rfl, ad2, W'.played (st), cs ++ [(sa, st)], body ++ [st], g1.trans f1, g2.trans f2, (AQ.weaken (A'.sm ((s3.trans s5).trans s6)).back).wr lSf2 hlS0, lSf2, by rw [upd_same, List.map_append]; rfl, fun q hq => by
                  have hq2 : HQ q.1 = some (.tup q.2.vals) := by
                    rcases List.mem_append.mp hq with hq | hq
                    · exact AQ.same _ _ ((A'.sm ((s3.trans s5).trans s6)).out_tup (((s3.trans s5).trans s6) _ _ (hcs' q hq)))
                    · rw [List.mem_singleton.mp hq]
                      exact AQ.same _ _ ((A'.sm ((s3.trans s5).trans s6)).out_tup (s6 _ _ (s5 _ _ hst)))
                  rw [upd_ne (fun z => by rw [z, lSQ] at hq2; cases hq2)]
                  exact hq2, by rw [List.map_append, hcm']; simp, by rw [← step_pl (pl)]; exact Runs.snoc run' (.inr ⟨ok, laid, pl⟩), by rw [List.length_append]; show body.length + 1 ≤ _; omega, by rw [List.length_append]; show cs.length + 1 ≤ _; omega⟩
            · skip
              refine ⟨_, rfl, _, rfl, _, rfl, offW ad' W' H5, ad', W', sa, st, .ref (ad' .pl), by rw [f1, f2]; rfl, (A'.sm (s3.trans s5)).rebase, (A'.sm (s3.trans s5)).out_tup (s5 _ _ hst), ok, laid, pl, fun _ => rfl, fun ad2 HQ g1 g2 AQ => ?_⟩
              have lSo := off_keep lSf' ((s3.trans s5) _ _ lSH')
              have lSQ := AQ.same _ _ lSo
              have lSf2 := AQ.fresh lSo
              refine ⟨_, rfl, lty lSQ, _, rfl, lS, _, _, rfl, rfl, lSQ, by rw [List.length_map]; exact sz_lt (by omega), ?_⟩
              exact ⟨_, _, _, _, rfl, ad2, W'.played (st), cs ++ [(sa, st)], body ++ [st], g1.trans f1, g2.trans f2, (AQ.weaken (A'.sm (s3.trans s5)).back).wr lSf2 hlS0, lSf2, by rw [upd_same, List.map_append]; rfl, fun q hq => by
                have hq2 : HQ q.1 = some (.tup q.2.vals) := by
                  rcases List.mem_append.mp hq with hq | hq
                  · exact AQ.same _ _ ((A'.sm (s3.trans s5)).out_tup ((s3.trans s5) _ _ (hcs' q hq)))
                  · rw [List.mem_singleton.mp hq]
                    exact AQ.same _ _ ((A'.sm (s3.trans s5)).out_tup (s5 _ _ hst))
                rw [upd_ne (fun z => by rw [z, lSQ] at hq2; cases hq2)]
                exact hq2, by rw [List.map_append, hcm']; simp, by rw [← step_pl (pl)]; exact Runs.snoc run' (.inr ⟨ok, laid, pl⟩), by rw [List.length_append]; show body.length + 1 ≤ _; omega, by rw [List.length_append]; show cs.length + 1 ≤ _; omega⟩
        · rw [decide_eq_false hw]
          skip
          have A3 := A'.sm s3
          refine ⟨_, rfl, _, rfl, offW ad' W' H3', ad', W', sa, st, by rw [f1]; rfl, A3.rebase, A3.out_tup hst, ok, fun b H5 s5 hb => ⟨_, rfl, ?_⟩⟩
          cases b with
          | false =>
            have sN2 := s5
            have bq2 := lsome_b ns (8 + i) 2 (many := (W.nse : Int)) (by omega)
            obtain ⟨pn, hpn, epn⟩ := ls_nat ns (8 + i) 2 (n := W.nse) (by omega)
            refine ⟨_, rfl, _, rfl, _, rfl, a, ns, 8 + i, 2, W.nse, rfl, (s3.trans s5).seq hS', by omega, by decide, by omega, ?_⟩
            rw [epn]
            refine ⟨_, rfl, _, rfl, a, ns, 8 + i, rfl, (s3.trans s5).seq hS', by omega, _, rfl, _, rfl, _, _, _, _, rfl, rfl, SqT.of (sN2 _ _ hst), Stp.atM ok.eff, small_sz (by simp), fun tn htn => ?_⟩
            have htnc : upd H5 tn (.tup (Stp.number pn (lnum ns (8 + i)) st.mask).vals) tn = some (.tup (Stp.number pn (lnum ns (8 + i)) st.mask).vals) := upd_same
            have un : Same H5 (upd H5 tn (.tup (Stp.number pn (lnum ns (8 + i)) st.mask).vals)) := same_new htn
            have ent : HO.tup (Stp.number pn (lnum ns (8 + i)) st.mask).vals = HO.tup [.str "number", .int (pn : Int), .int (lnum ns (8 + i)), .int (st.mask : Int)] := rfl
            rw [← ent]
            generalize upd H5 tn (.tup (Stp.number pn (lnum ns (8 + i)) st.mask).vals) = HN at htnc un ⊢
            refine ⟨_, rfl, _, rfl, _, rfl, offW ad' W' HN, ad', W', tn, Stp.number pn (lnum ns (8 + i)) st.mask, .ref (ad' .pl), by rw [f1, f2]; rfl, (A'.sm ((s3.trans s5).trans un)).rebase, (A'.sm ((s3.trans s5).trans un)).out_tup (htnc), (⟨ok.1, by rw [hnse']; exact hpn, lnum_kr ns _⟩ : W'.ok (Stp.number pn (lnum ns (8 + i)) st.mask)), (fun e he hm => by cases hm), rfl, fun _ => rfl, fun ad2 HQ g1 g2 AQ => ?_⟩
            have lSo := off_keep lSf' (((s3.trans s5).trans un) _ _ lSH')
            have lSQ := AQ.same _ _ lSo
            have lSf2 := AQ.fresh lSo
            refine ⟨_, rfl, lty lSQ, _, rfl, lS, _, _, rfl, rfl, lSQ, by rw [List.length_map]; exact sz_lt (by omega), ?_⟩
            exact ⟨_, _, _, _, rfl, ad2, W'.played (Stp.number pn (lnum ns (8 + i)) st.mask), cs ++ [(tn, Stp.number pn (lnum ns (8 + i)) st.mask)], body ++ [Stp.number pn (lnum ns (8 + i)) st.mask], g1.trans f1, g2.trans f2, (AQ.weaken (A'.sm ((s3.trans s5).trans un)).back).wr lSf2 hlS0, lSf2, by rw [upd_same, List.map_append]; rfl, fun q hq => by
              have hq2 : HQ q.1 = some (.tup q.2.vals) := by
                rcases List.mem_append.mp hq with hq | hq
                · exact AQ.same _ _ ((A'.sm ((s3.trans s5).trans un)).out_tup (((s3.trans s5).trans un) _ _ (hcs' q hq)))
                · rw [List.mem_singleton.mp hq]
                  exact AQ.same _ _ ((A'.sm ((s3.trans s5).trans un)).out_tup (htnc))
              rw [upd_ne (fun z => by rw [z, lSQ] at hq2; cases hq2)]
              exact hq2, by rw [List.map_append, hcm']; simp, by rw [← step_pl (rfl)]; exact Runs.snoc run' (.inr ⟨(⟨ok.1, by rw [hnse']; exact hpn, lnum_kr ns _⟩ : W'.ok (Stp.number pn (lnum ns (8 + i)) st.mask)), (fun e he hm => by cases hm), rfl⟩), by rw [List.length_append]; show body.length + 1 ≤ _; omega, by rw [List.length_append]; show cs.length + 1 ≤ _; omega⟩
          | true =>
            have laid := hb.mp rfl
            refine ⟨_, rfl, _, rfl, iteB (fun hcb => ?_) (fun hcb => ?_)⟩
            · refine ⟨_, rfl, _, rfl, _, rfl, offW ad' W' H3', ad', W', sa, st, .ref (ad' .pl), by rw [f1, f2]; rfl, A3.rebase.sm s5, A3.out_tup hst, ok, laid, fun _ => rfl, fun b2 H6 s6 hb2 => ⟨_, rfl, ?_⟩⟩
              cases b2 with
              | true =>
                have sN2 := s5.trans s6
                have bq2 := lsome_b ns (8 + i) 2 (many := (W.nse : Int)) (by omega)
                obtain ⟨pn, hpn, epn⟩ := ls_nat ns (8 + i) 2 (n := W.nse) (by omega)
                refine ⟨_, rfl, _, rfl, _, rfl, a, ns, 8 + i, 2, W.nse, rfl, ((s3.trans s5).trans s6).seq hS', by omega, by decide, by omega, ?_⟩
                rw [epn]
                refine ⟨_, rfl, _, rfl, a, ns, 8 + i, rfl, ((s3.trans s5).trans s6).seq hS', by omega, _, rfl, _, rfl, _, _, _, _, rfl, rfl, SqT.of (sN2 _ _ hst), Stp.atM ok.eff, small_sz (by simp), fun tn htn => ?_⟩
                have htnc : upd H6 tn (.tup (Stp.number pn (lnum ns (8 + i)) st.mask).vals) tn = some (.tup (Stp.number pn (lnum ns (8 + i)) st.mask).vals) := upd_same
                have un : Same H6 (upd H6 tn (.tup (Stp.number pn (lnum ns (8 + i)) st.mask).vals)) := same_new htn
                have ent : HO.tup (Stp.number pn (lnum ns (8 + i)) st.mask).vals = HO.tup [.str "number", .int (pn : Int), .int (lnum ns (8 + i)), .int (st.mask : Int)] := rfl
                rw [← ent]
                generalize upd H6 tn (.tup (Stp.number pn (lnum ns (8 + i)) st.mask).vals) = HN at htnc un ⊢
                refine ⟨_, rfl, _, rfl, _, rfl, offW ad' W' HN, ad', W', tn, Stp.number pn (lnum ns (8 + i)) st.mask, .ref (ad' .pl), by rw [f1, f2]; rfl, (A'.sm (((s3.trans s5).trans s6).trans un)).rebase, (A'.sm (((s3.trans s5).trans s6).trans un)).out_tup (htnc), (⟨ok.1, by rw [hnse']; exact hpn, lnum_kr ns _⟩ : W'.ok (Stp.number pn (lnum ns (8 + i)) st.mask)), (fun e he hm => by cases hm), rfl, fun _ => rfl, fun ad2 HQ g1 g2 AQ => ?_⟩
                have lSo := off_keep lSf' ((((s3.trans s5).trans s6).trans un) _ _ lSH')
                have lSQ := AQ.same _ _ lSo
                have lSf2 := AQ.fresh lSo
                refine ⟨_, rfl, lty lSQ, _, rfl, lS, _, _, rfl, rfl, lSQ, by rw [List.length_map]; exact sz_lt (by omega), ?_⟩
                exact ⟨_, _, _, _, rfl, ad2, W'.played (Stp.number pn (lnum ns (8 + i)) st.mask), cs ++ [(tn, Stp.number pn (lnum ns (8 + i)) st.mask)], body ++ [Stp.number pn (lnum ns (8 + i)) st.mask], g1.trans f1, g2.trans f2, (AQ.weaken (A'.sm (((s3.trans s5).trans s6).trans un)).back).wr lSf2 hlS0, lSf2, by rw [upd_same, List.map_append]; rfl, fun q hq => by
                  have hq2 : HQ q.1 = some (.tup q.2.vals) := by
                    rcases List.mem_append.mp hq with hq | hq
                    · exact AQ.same _ _ ((A'.sm (((s3.trans s5).trans s6).trans un)).out_tup ((((s3.trans s5).trans s6).trans un) _ _ (hcs' q hq)))
                    · rw [List.mem_singleton.mp hq]
                      exact AQ.same _ _ ((A'.sm (((s3.trans s5).trans s6).trans un)).out_tup (htnc))
                  rw [upd_ne (fun z => by rw [z, lSQ] at hq2; cases hq2)]
                  exact hq2, by rw [List.map_append, hcm']; simp, by rw [← step_pl (rfl)]; exact Runs.snoc run' (.inr ⟨(⟨ok.1, by rw [hnse']; exact hpn, lnum_kr ns _⟩ : W'.ok (Stp.number pn (lnum ns (8 + i)) st.mask)), (fun e he hm => by cases hm), rfl⟩), by rw [List.length_append]; show body.length + 1 ≤ _; omega, by rw [List.length_append]; show cs.length + 1 ≤ _; omega⟩
              | false =>
                skip
                refine ⟨_, rfl, _, rfl, _, rfl, offW ad' W' H6, ad', W', sa, st, .ref (ad' .pl), by rw [f1, f2]; rfl, (A'.sm ((s3.trans s5).trans s6)).rebase, (A'.sm ((s3.trans s5).trans s6)).out_tup (s6 _ _ (s5 _ _ hst)), ok, laid, pl, fun _ => rfl, fun ad2 HQ g1 g2 AQ => ?_⟩
                have lSo := off_keep lSf' (((s3.trans s5).trans s6) _ _ lSH')
                have lSQ := AQ.same _ _ lSo
                have lSf2 := AQ.fresh lSo
                refine ⟨_, rfl, lty lSQ, _, rfl, lS, _, _, rfl, rfl, lSQ, by rw [List.length_map]; exact sz_lt (by omega), ?_⟩
                exact ⟨_, _, _, _, rfl, ad2, W'.played (st), cs ++ [(sa, st)], body ++ [st], g1.trans f1, g2.trans f2, (AQ.weaken (A'.sm ((s3.trans s5).trans s6)).back).wr lSf2 hlS0, lSf2, by rw [upd_same, List.map_append]; rfl, fun q hq => by
                  have hq2 : HQ q.1 = some (.tup q.2.vals) := by
                    rcases List.mem_append.mp hq with hq | hq
                    · exact AQ.same _ _ ((A'.sm ((s3.trans s5).trans s6)).out_tup (((s3.trans s5).trans s6) _ _ (hcs' q hq)))
                    · rw [List.mem_singleton.mp hq]
                      exact AQ.same _ _ ((A'.sm ((s3.trans s5).trans s6)).out_tup (s6 _ _ (s5 _ _ hst)))
                  rw [upd_ne (fun z => by rw [z, lSQ] at hq2; cases hq2)]
                  exact hq2, by rw [List.map_append, hcm']; simp, by rw [← step_pl (pl)]; exact Runs.snoc run' (.inr ⟨ok, laid, pl⟩), by rw [List.length_append]; show body.length + 1 ≤ _; omega, by rw [List.length_append]; show cs.length + 1 ≤ _; omega⟩
            · skip
              refine ⟨_, rfl, _, rfl, _, rfl, offW ad' W' H5, ad', W', sa, st, .ref (ad' .pl), by rw [f1, f2]; rfl, (A'.sm (s3.trans s5)).rebase, (A'.sm (s3.trans s5)).out_tup (s5 _ _ hst), ok, laid, pl, fun _ => rfl, fun ad2 HQ g1 g2 AQ => ?_⟩
              have lSo := off_keep lSf' ((s3.trans s5) _ _ lSH')
              have lSQ := AQ.same _ _ lSo
              have lSf2 := AQ.fresh lSo
              refine ⟨_, rfl, lty lSQ, _, rfl, lS, _, _, rfl, rfl, lSQ, by rw [List.length_map]; exact sz_lt (by omega), ?_⟩
              exact ⟨_, _, _, _, rfl, ad2, W'.played (st), cs ++ [(sa, st)], body ++ [st], g1.trans f1, g2.trans f2, (AQ.weaken (A'.sm (s3.trans s5)).back).wr lSf2 hlS0, lSf2, by rw [upd_same, List.map_append]; rfl, fun q hq => by
                have hq2 : HQ q.1 = some (.tup q.2.vals) := by
                  rcases List.mem_append.mp hq with hq | hq
                  · exact AQ.same _ _ ((A'.sm (s3.trans s5)).out_tup ((s3.trans s5) _ _ (hcs' q hq)))
                  · rw [List.mem_singleton.mp hq]
                    exact AQ.same _ _ ((A'.sm (s3.trans s5)).out_tup (s5 _ _ hst))
                rw [upd_ne (fun z => by rw [z, lSQ] at hq2; cases hq2)]
                exact hq2, by rw [List.map_append, hcm']; simp, by rw [← step_pl (pl)]; exact Runs.snoc run' (.inr ⟨ok, laid, pl⟩), by rw [List.length_append]; show body.length + 1 ≤ _; omega, by rw [List.length_append]; show cs.length + 1 ≤ _; omega⟩
    · rintro σ H' ⟨v6, v8, v9, v10, rfl, ad', W', cs, body, f1, f2, A', lSf', lSH', hcs', hcm', run', hbl, hcl⟩
      refine ⟨_, rfl, kQ (offW ad' W' H') ad' W' cs lS H' body A'.back f1 f2 A'.rebase (off_keep lSf' lSH') (fun q hq => A'.out_tup (hcs' q hq)) hcm' run' ?_⟩
      have hlen := hbl
      exact Nat.le_trans hbl (mmn hLb)
theorem cal__law_steps {P : Program} {w : World} {K : PySem.W.Frag} {mg : Str → Option Value} {base : Heap} (T : Txt w K mg) : Cal P w K mg base 5 "_law_steps" ["_law_script", "_law_world", "_law_parts_here", "_law_seats", "_law_side"] (sp__law_steps K) := ⟨_, _, ok__law_steps T, T.g__law_steps, T.f__law_steps.kp, T.f__law_steps.bindsN (ps := ["_law_script", "_law_world", "_law_parts_here", "_law_seats", "_law_side"]) fun _ _ _ _ _ _ us hl => match us, hl with | [_, _, _, _, _], _ => rfl⟩
end Rb
end

section
set_option Elab.async false
set_option linter.all false
set_option maxRecDepth 100000
set_option maxHeartbeats 4000000
namespace Rb
open PySem PySem.Spec PyProof.Rows L2
/-! ### a strip of the machine beside the law's world -/
def fr (t r : Nat) : Nat := (r + 7 - t) % 7
def gr (t k : Nat) : Nat := (k + t) % 7
theorem fr7 {t r : Nat} : fr t r < 7 := Nat.mod_lt _ (by decide)
theorem gr7 {t k : Nat} : gr t k < 7 := Nat.mod_lt _ (by decide)
theorem gr_fr {t r : Nat} (ht : t < 7) (hr : r < 7) : gr t (fr t r) = r := by
  unfold gr fr
  omega
theorem fr_gr {t k : Nat} (ht : t < 7) (hk : k < 7) : fr t (gr t k) = k := by
  unfold gr fr
  omega
structure Sim (t nse base : Nat) (m : MS) (W : WS) : Prop where
  on : m.on = true
  nsg : nse ≤ 8 / m.g
  bs : m.base = base
  wb : base + m.width ≤ W.many
  wg : m.width ≤ m.g * m.lanes
  wn : W.nse = nse
  k16 : ∀ k ∈ W.ks, k < 16
  lnr : (∀ r, r < 7 → 0 < W.ln r) ∧ W.ln 0 = W.many ∧ W.ln 1 = W.many ∧ W.ln 3 = W.many ∧ W.ln 4 = W.many
  rows : ∀ r, r < 3 → ∀ i, m.rc (fr t r) i = W.pr r i
  lens : ∀ r, r < 7 → m.ln (fr t r) = W.ln r
  fl : ∀ j, j < m.width → m.fl j = W.fa (base + j)
  ma : ∀ k ∈ W.ks, ∀ j, j < m.width → m.ma k j = W.wm k (base + j)
  sn : ∀ q, q < nse → ∀ j, j < m.width → ∀ v, W.se q (base + j) = some v → m.sn q j = v
  sl : ∀ s, s < 60 → ∀ j, j < m.width → ∀ v, W.so s (base + j) = some v → m.sl s j = v
/-- what a step of the body leaves as it is -/
structure Fix (m m' : MS) : Prop where
  g : m'.g = m.g
  lanes : m'.lanes = m.lanes
  len : m'.len = m.len
  rc : m'.rc = m.rc
  many : m'.many = m.many
  began : m'.began = m.began
  width : m'.width = m.width
  cut : m'.cut = m.cut
  car : m'.car = m.car
  base : m'.base = m.base
  flc : ∀ c, m.width ≤ c → m'.fl c = m.fl c
section
variable {t nse base : Nat} {m : MS} {W : WS}
theorem Sim.act (S : Sim t nse base m W) {md j : Nat} (hk : md ∈ W.ks) : m.act md j = true ↔ j < m.width ∧ base + j ∈ W.actL md := by
  constructor
  · intro h
    unfold MS.act at h
    rw [Bool.and_eq_true, Bool.and_eq_true, decide_eq_true_iff] at h
    obtain ⟨h1, h2, h3⟩ := h
    refine ⟨h1, mem_wact.mpr ⟨by have := S.wb; omega, ?_⟩⟩
    unfold WS.act
    rw [← S.fl j h1, ← S.ma md hk j h1, h2, h3]
    rfl
  · rintro ⟨h1, h2⟩
    obtain ⟨h3, h4⟩ := mem_wact.mp h2
    unfold WS.act at h4
    rw [Bool.and_eq_true] at h4
    unfold MS.act
    rw [decide_eq_true h1, S.fl j h1, S.ma md hk j h1, h4.1, h4.2]
    rfl
theorem Sim.num (S : Sim t nse base m W) {q j : Nat} (hq : q < nse) (hj : j < m.width) (h : none ∉ [W.se q (base + j)]) : m.sn q j = W.num q (base + j) := S.sn q hq j hj _ (num_of h)
theorem Sim.got (S : Sim t nse base m W) {st : Stp} (ok : W.ok st) {j : Nat} (hj : j < m.width) (hl : st.lays = true) (hn : none ∉ W.rd (base + j) st) : m.got j (st.turn (fr t)) = W.got (base + j) st := by
  have wn := S.wn
  have two : ∀ {a b : Option Int}, none ∉ [a, b] → none ∉ [a] ∧ none ∉ [b] := fun {a b} h => ⟨fun z => h (by rcases List.mem_singleton.mp z with z; rw [← z]; simp), fun z => h (by rcases List.mem_singleton.mp z with z; rw [← z]; simp)⟩
  cases st with
  | number p n md => rfl
  | here p md =>
    show (((m.base + j : Nat) : Int), none) = _
    rw [S.bs]
    rfl
  | load p row md =>
    show (m.rc (fr t row) (m.base + j), none) = _
    rw [S.bs, S.rows row (by have := ok.2.2; omega)]
    rfl
  | spread p row md =>
    show (m.rc (fr t row) 0, none) = _
    rw [S.rows row ok.2.2]
    rfl
  | shift p row b o md =>
    have hr := ok.2.2.1
    show ((if 0 ≤ ((m.base + j : Nat) : Int) + b ∧ ((m.base + j : Nat) : Int) + b < (m.ln (fr t row) : Int) then m.rc (fr t row) (((m.base + j : Nat) : Int) + b).toNat else o), none) = _
    rw [S.bs, S.rows row hr, S.lens row (by omega)]
    rfl
  | gather p q row md =>
    have hr := ok.2.2.2
    rw [show (Stp.gather p q row md).turn (fr t) = .gather p q (fr t row) md from rfl, got_gather, S.num (q := q) (by rw [← wn]; exact ok.2.2.1) hj hn, S.rows row hr, S.lens row (by omega)]
    rfl
  | op p s q r md =>
    obtain ⟨h1, h2⟩ := two hn
    rw [show (Stp.op p s q r md).turn (fr t) = .op p s q r md from rfl, got_op, S.num (q := q) (by rw [← wn]; exact ok.2.2.1) hj h1, S.num (q := r) (by rw [← wn]; exact ok.2.2.2.1) hj h2]
    rfl
  | pick p q r k md =>
    show ((if m.ma k j = true then m.sn q j else m.sn r j), none) = ((if W.wm k (base + j) = true then W.num q (base + j) else W.num r (base + j)), none)
    have hn2 : none ∉ [if W.wm k (base + j) = true then W.se q (base + j) else W.se r (base + j)] := hn
    rw [S.ma k ok.2.2.2.2 j hj]
    cases hb : W.wm k (base + j) with
    | true =>
      rw [hb, if_pos rfl] at hn2
      rw [if_pos rfl, if_pos rfl, S.num (by rw [← wn]; exact ok.2.2.1) hj hn2]
    | false =>
      rw [hb, if_neg (by decide)] at hn2
      rw [if_neg (by decide), if_neg (by decide), S.num (by rw [← wn]; exact ok.2.2.2.1) hj hn2]
  | copy p q md =>
    show (m.sn q j, none) = _
    rw [S.num (q := q) (by rw [← wn]; exact ok.2.2) hj hn]
    rfl
  | bring p s md =>
    have hn2 : none ∉ [W.so s (base + j)] := hn
    show (m.sl s j, none) = ((W.so s (base + j)).getD 0, none)
    cases hv : W.so s (base + j) with
    | none => rw [hv] at hn2; simp at hn2
    | some v =>
      rw [S.sl s ok.2.2 j hj v hv]
      rfl
  | _ => cases hl
theorem turn_lays {st : Stp} {f : Nat → Nat} : (st.turn f).lays = st.lays := by cases st <;> rfl
theorem turn_seat {st : Stp} {f : Nat → Nat} : (st.turn f).seat = st.seat := by cases st <;> rfl
theorem turn_mask {st : Stp} {f : Nat → Nat} : (st.turn f).mask = st.mask := by cases st <;> rfl
theorem Sim.can (S : Sim t nse base m W) {st : Stp} (ok : W.ok st) (hl : st.lays = true) : m.can (st.turn (fr t)) := by
  have wn := S.wn
  have ng := S.nsg
  have kk := S.k16
  have le : ∀ {p : Nat}, p < W.nse → p < 8 / m.g := fun h => by omega
  cases st with
  | number p n md => exact ok.2.2
  | here p md => trivial
  | load p row md =>
    have hr := ok.2.2
    refine ⟨fr7, ?_⟩
    rw [S.lens row (by omega), S.bs]
    have h3 : row = 0 ∨ row = 1 := by omega
    rcases h3 with rfl | rfl
    · rw [S.lnr.2.1]; exact S.wb
    · rw [S.lnr.2.2.1]; exact S.wb
  | spread p row md =>
    have hr := ok.2.2
    exact ⟨fr7, by rw [S.lens row (by omega)]; exact S.lnr.1 row (by omega)⟩
  | shift p row b o md => exact ⟨fr7, ok.2.2.2.1⟩
  | gather p q row md => exact ⟨le ok.2.2.1, fr7⟩
  | op p s q r md => exact ⟨le ok.2.2.1, le ok.2.2.2.1⟩
  | pick p q r k md => exact ⟨le ok.2.2.1, le ok.2.2.2.1, kk k ok.2.2.2.2⟩
  | copy p q md => exact le ok.2.2
  | bring p s md => exact ok.2.2
  | _ => cases hl
theorem lays_seat {st : Stp} (ok : W.ok st) (hl : st.lays = true) : st.seat < W.nse := by
  cases st <;> first | exact ok.2 | exact ok.2.1 | (cases hl; done)
theorem lays_played {st : Stp} (hl : st.lays = true) : W.played st = { W with se := fun q e => if q = st.seat then W.layF st.mask (W.gotO st) e else W.se q e, fa := W.faF st } := by
  cases st <;> first | rfl | (cases hl; done)
theorem lays_stp {st : Stp} {a o : Int} {R : Option (Int × Int × Str) → MS → Int → Int → Prop} (hl : st.lays = true) (h : m.on = true ∧ m.tn + 1000 < 10000000 ∧ m.can st ∧ st.seat < 8 / m.g ∧ st.mask < 16 ∧ ∀ (s' : Nat → Nat → Int) (fl' : Nat → Option Str) (t' : Nat), m.Laid st s' fl' (m.g * m.lanes) → t' ≤ m.tn + 1000 → R none { m with sn := s', fl := fl', tn := t' } a o) : m.stp a o R st := by
  obtain ⟨h1, h2, h3, h4, h5, h6⟩ := h
  cases st <;> first | exact ⟨h1, h2, rfl, h3, h4, h5, h6⟩ | (cases hl; done)
theorem lays_word {st : Stp} (hl : st.lays = true) : st.word ≠ "reach" := by
  cases st <;> first | (cases hl; done) | (simp only [Stp.word]; decide +kernel)
theorem sim_lays (S : Sim t nse base m W) {st : Stp} (ok : W.ok st) (laid : W.laid st) (hl : st.lays = true) (htn : m.tn + 1000 < 10000000) {a o : Int} {R : Option (Int × Int × Str) → MS → Int → Int → Prop}
    (hR : ∀ m', Sim t nse base m' (W.played st) → m'.tn ≤ m.tn + 1000 → Fix m m' → R none m' a o) : m.stp a o R (st.turn (fr t)) := by
  refine lays_stp (turn_lays.trans hl) ⟨S.on, htn, S.can ok hl, ?_, ?_, fun s' fl' t' L ht' => ?_⟩
  · rw [turn_seat]
    have := lays_seat ok hl
    have h1 := S.wn
    have h2 := S.nsg
    omega
  · rw [turn_mask]
    exact S.k16 _ ok.1
  have hact : ∀ j, m.act (st.turn (fr t)).mask j = true ↔ j < m.width ∧ base + j ∈ W.actL st.mask := fun j => by
    rw [turn_mask]
    exact S.act ok.1
  have hgot : ∀ j, j < m.width → base + j ∈ W.actL st.mask → m.got j (st.turn (fr t)) = W.got (base + j) st := fun j h1 h2 => S.got ok h1 hl (laid _ h2)
  refine hR _ ?_ ht' ⟨rfl, rfl, rfl, rfl, rfl, rfl, rfl, rfl, rfl, rfl, fun c hc => ?_⟩
  · rw [lays_played hl]
    refine ⟨S.on, S.nsg, S.bs, S.wb, S.wg, S.wn, S.k16, S.lnr, S.rows, S.lens, fun j hj => ?_, S.ma, fun q hq j hj v hv => ?_, S.sl⟩
    · have hj' : j < m.width := hj
      show fl' j = W.faF st (base + j)
      rw [L.flt j (Nat.lt_of_lt_of_le hj' S.wg)]
      unfold WS.faF
      by_cases c : base + j ∈ W.actL st.mask
      · rw [if_pos ((hact j).mpr ⟨hj', c⟩), hgot j hj' c, flf_got (lays_word hl)]
        cases hv : (W.got (base + j) st).2 with
        | none =>
          rw [if_neg (fun z => by cases z.2)]
          exact S.fl j hj'
        | some f => rw [if_pos ⟨c, rfl⟩]
      · rw [if_neg (fun z => c ((hact j).mp z).2), if_neg (fun z => c z.1)]
        exact S.fl j hj'
    · have hj' : j < m.width := hj
      have hv' : (if q = st.seat then W.layF st.mask (W.gotO st) (base + j) else W.se q (base + j)) = some v := hv
      show s' q j = v
      by_cases c : q = st.seat
      · rw [if_pos c] at hv'
        unfold WS.layF at hv'
        by_cases d : base + j ∈ W.actL st.mask
        · rw [if_pos d] at hv'
          have hg := hgot j hj' d
          unfold WS.gotO at hv'
          have hp : W.got (base + j) st = (v, none) := by
            revert hv'
            cases W.got (base + j) st with
            | mk n f =>
              cases f with
              | none => intro h; cases h; rfl
              | some f => intro h; cases h
          rw [hp] at hg
          have h5 := L.ok j (Nat.lt_of_lt_of_le hj' S.wg) ((hact j).mpr ⟨hj', d⟩) (by rw [hg])
          rw [turn_seat] at h5
          rw [c, h5, hg]
        · rw [if_neg d] at hv'
          cases hv'
      · rw [if_neg c] at hv'
        rw [L.oth q (by rw [turn_seat]; exact c)]
        exact S.sn q hq j hj' v hv'
  · show fl' c = m.fl c
    have hna : ¬ m.act (st.turn (fr t)).mask c = true := fun z => by
      have := ((hact c).mp z).1
      omega
    by_cases d : c < m.g * m.lanes
    · rw [L.flt c d, if_neg hna]
    · exact (L.up c (by omega)).2
theorem sim_step (S : Sim t nse base m W) {st : Stp} (ok : W.ok st) (laid : W.laid st) (hp : st.pl = true) (htn : m.tn + 1000 < 10000000) {a o : Int} {R : Option (Int × Int × Str) → MS → Int → Int → Prop}
    (hR : ∀ m', Sim t nse base m' (W.played st) → m'.tn ≤ m.tn + 1000 → Fix m m' → R none m' a o) : m.stp a o R (st.turn (fr t)) := by
  have wn := S.wn
  have ng := S.nsg
  have le : ∀ {p : Nat}, p < W.nse → p < 8 / m.g := fun h => by omega
  by_cases hl : st.lays = true
  · exact sim_lays S ok laid hl htn hR
  have chose : ∀ (oth : Bool) (k p md : Nat) (ma' : Nat → Nat → Bool), md ∈ W.ks → p < W.nse → k < 16 → (∀ e ∈ W.actL md, none ∉ [W.se p e]) → (∀ k', k' ≠ k → ∀ j, ma' k' j = m.ma k' j) → (∀ j, j < m.width → ma' k j = m.chosen oth md p j) → Sim t nse base { m with ma := ma' } { W with ks := addK W.ks k, wm := fun q e => if q = k then W.choseF oth p md e else W.wm q e } := by
    intro oth k p md ma' hmd hpn hk16 hla h1 h2
    refine ⟨S.on, S.nsg, S.bs, S.wb, S.wg, S.wn, fun x hx => ?_, S.lnr, S.rows, S.lens, S.fl, fun x hx j hj => ?_, S.sn, S.sl⟩
    · rcases mem_addK.mp hx with e | e
      · omega
      · exact S.k16 x e
    · have hj' : j < m.width := hj
      show ma' x j = if x = k then W.choseF oth p md (base + j) else W.wm x (base + j)
      by_cases c : x = k
      · rw [if_pos c, c, h2 j hj']
        unfold MS.chosen WS.choseF
        by_cases d : base + j ∈ W.actL md
        · rw [(S.act hmd).mpr ⟨hj', d⟩, (mem_wact.mp d).2, S.num (by omega) hj' (hla _ d)]
          rfl
        · have e1 : m.act md j = false := by
            cases h : m.act md j with
            | false => rfl
            | true => exact (d ((S.act hmd).mp h).2).elim
          have e2 : W.act md (base + j) = false := by
            cases h : W.act md (base + j) with
            | false => rfl
            | true => exact (d (mem_wact.mpr ⟨by have := S.wb; omega, h⟩)).elim
          rw [e1, e2]
          rfl
      · rw [if_neg c, h1 x c j]
        exact S.ma x ((mem_addK.mp hx).resolve_left c) j hj'
  cases st with
  | choose k p md =>
    exact ⟨S.on, htn, ok.2.2, le ok.2.1, S.k16 _ ok.1, fun ma' h1 h2 => hR _ (chose false k p md ma' ok.1 ok.2.1 ok.2.2 laid h1 h2) (Nat.le_add_right _ _) ⟨rfl, rfl, rfl, rfl, rfl, rfl, rfl, rfl, rfl, rfl, fun _ _ => rfl⟩⟩
  | other k p md =>
    exact ⟨S.on, htn, ok.2.2, le ok.2.1, S.k16 _ ok.1, fun ma' h1 h2 => hR _ (chose true k p md ma' ok.1 ok.2.1 ok.2.2 laid h1 h2) (Nat.le_add_right _ _) ⟨rfl, rfl, rfl, rfl, rfl, rfl, rfl, rfl, rfl, rfl, fun _ _ => rfl⟩⟩
  | save s p md =>
    refine ⟨S.on, htn, ok.2.2, le ok.2.1, S.k16 _ ok.1, fun s' t' h1 ht' => hR _ ?_ ht' ⟨rfl, rfl, rfl, rfl, rfl, rfl, rfl, rfl, rfl, rfl, fun _ _ => rfl⟩⟩
    refine ⟨S.on, S.nsg, S.bs, S.wb, S.wg, S.wn, S.k16, S.lnr, S.rows, S.lens, S.fl, S.ma, S.sn, fun x hx j hj v hv => ?_⟩
    have hj' : j < m.width := hj
    have hv' : (if x = s then W.layF md (fun e => some (W.num p e)) (base + j) else W.so x (base + j)) = some v := hv
    show s' x j = v
    rw [h1 x j]
    by_cases c : x = s
    · rw [if_pos c] at hv'
      unfold WS.layF at hv'
      by_cases d : base + j ∈ W.actL md
      · rw [if_pos d] at hv'
        rw [if_pos ⟨c, (S.act ok.1).mpr ⟨hj', d⟩⟩, S.num (by have := ok.2.1; omega) hj' (laid _ d)]
        exact Option.some.inj hv'
      · rw [if_neg d] at hv'
        cases hv'
    · rw [if_neg c] at hv'
      rw [if_neg (fun z => c z.1)]
      exact S.sl x hx j hj' v hv'
  | reach p n md =>
    refine ⟨S.on, htn, le ok.2, S.k16 _ ok.1, fun fl' t' h1 ht' => hR _ ?_ ht' ⟨rfl, rfl, rfl, rfl, rfl, rfl, rfl, rfl, rfl, rfl, fun c hc => ?_⟩⟩
    · refine ⟨S.on, S.nsg, S.bs, S.wb, S.wg, S.wn, S.k16, S.lnr, S.rows, S.lens, fun j hj => ?_, S.ma, S.sn, S.sl⟩
      have hj' : j < m.width := hj
      show fl' j = W.faF (.reach p n md) (base + j)
      rw [h1 j]
      unfold WS.faF
      by_cases d : base + j ∈ W.actL md
      · have ha := (S.act ok.1).mpr ⟨hj', d⟩
        have hnum := S.num (q := p) (by have := ok.2; omega) hj' (laid _ d)
        rw [hnum]
        by_cases c : 0 ≤ W.num p (base + j) ∧ W.num p (base + j) < n
        · have e1 : W.flf (base + j) (.reach p n md) = none := if_pos c
          rw [if_neg (fun z => z.2 c), if_neg (fun z => by rw [e1] at z; cases z.2)]
          exact S.fl j hj'
        · have e1 : W.flf (base + j) (.reach p n md) = some ("outside" : Str) := if_neg c
          rw [if_pos ⟨ha, c⟩, if_pos ⟨d, by rw [e1]; rfl⟩, e1]
      · rw [if_neg (fun z => d ((S.act ok.1).mp z.1).2), if_neg (fun z => d z.1)]
        exact S.fl j hj'
    · show fl' c = m.fl c
      rw [h1 c, if_neg (fun z => by have := ((S.act ok.1).mp z.1).1; omega)]
  | _ => first | exact (hl rfl).elim | cases hp
/-- a fault stays -/
theorem fault_stays {st : Stp} {e : Nat} {f : Str} (h : W.fa e = some f) : (W.played st).fa e = some f := by
  have hn : ∀ md, e ∉ W.actL md := fun md z => by
    have := (mem_wact.mp z).2
    unfold WS.act at this
    rw [h] at this
    simp at this
  cases st <;> first
    | exact h
    | (show WS.faF W _ e = some f
       unfold WS.faF
       rw [if_neg (fun z => hn _ z.1)]
       exact h)
end
end Rb
end

section
set_option Elab.async false
set_option linter.all false
set_option maxRecDepth 100000
set_option maxHeartbeats 4000000
namespace Rb
open PySem PySem.Spec PyProof.Rows L2
/-! ### the effects, strip by strip and element by element -/
def Stp.erow : Stp → Nat
  | .store row _ _ => row
  | .put row _ _ _ => row
  | .fold row _ _ _ => row
  | .running row _ _ _ => row
  | _ => 0
def esb (W : WS) (st : Stp) (b : Nat) : List Nat := (List.range b).filter (W.act st.mask)
def stt (W : WS) (st : Stp) (b : Nat) : (Nat → Nat → Int) × Option Int := W.dueL st (esb W st b)
theorem range_split (a b : Nat) : List.range (a + b) = List.range a ++ (List.range b).map (a + ·) := List.range_add
theorem due_stt {W : WS} {st : Stp} {last : Nat} (h : last ≤ W.many) : W.due last st = (stt W st last).1 := by
  unfold WS.due stt
  congr 2
  unfold esb WS.actL
  have e : W.many = last + (W.many - last) := by omega
  rw [e, range_split, List.filter_append, List.takeWhile_append_of_pos fun x hx => by
    have := (List.mem_filter.mp hx).1
    rw [List.mem_range] at this
    exact decide_eq_true this]
  have e2 : (((List.range (W.many - last)).map (last + ·)).filter (W.act st.mask)).takeWhile (fun e => decide (e < last)) = [] := by
    cases hl : ((List.range (W.many - last)).map (last + ·)).filter (W.act st.mask) with
    | nil => rfl
    | cons x r =>
      have hx : x ∈ ((List.range (W.many - last)).map (last + ·)).filter (W.act st.mask) := by rw [hl]; exact List.mem_cons_self
      have h1 := (List.mem_filter.mp hx).1
      obtain ⟨y, _, rfl⟩ := List.mem_map.mp h1
      rw [List.takeWhile_cons, if_neg (by simp)]
  rw [e2, List.append_nil]
theorem stt0 {W : WS} {st : Stp} : stt W st 0 = (W.pr, none) := rfl
theorem dueL_own {W : WS} {st : Stp} (hd : st.due = true) : ∀ (es : List Nat) (s : (Nat → Nat → Int) × Option Int) (r : Nat), r ≠ st.erow → (es.foldl (W.dueS st) s).1 r = s.1 r
  | [], s, r, _ => rfl
  | e :: es, s, r, h => by
    rw [List.foldl_cons, dueL_own hd es _ r h]
    funext x
    cases st with
    | store row p md => exact upd2_ne fun z => h z.1
    | put row q p md => exact upd2_ne fun z => h z.1
    | fold row f p md => exact upd2_ne fun z => h z.1
    | running row f p md =>
      show (match s.2 with
        | none => (upd2 s.1 row e (W.num p e), some (W.num p e))
        | some c => (upd2 s.1 row e (jn f c (W.num p e)), some (jn f c (W.num p e)))).1 r x = s.1 r x
      cases s.2 <;> exact upd2_ne fun z => h z.1
    | _ => cases hd
section
variable {t nse base : Nat} {m : MS} {W : WS}
theorem Sim.seg (S : Sim t nse base m W) {st : Stp} (hk : st.mask ∈ W.ks) : esb W st (base + m.width) = esb W st base ++ (m.actL st.mask).map (base + ·) := by
  unfold esb MS.actL
  rw [range_split, List.filter_append]
  congr 1
  rw [List.filter_map]
  congr 1
  refine List.filter_congr fun j hj => ?_
  have hjw := List.mem_range.mp hj
  show W.act st.mask (base + j) = m.act st.mask j
  cases h : m.act st.mask j with
  | true => exact (mem_wact.mp ((S.act hk).mp h).2).2
  | false =>
    cases h2 : W.act st.mask (base + j) with
    | false => rfl
    | true =>
      have := (S.act hk).mpr ⟨hjw, mem_wact.mpr ⟨by have := S.wb; omega, h2⟩⟩
      rw [h] at this
      cases this
theorem upd2_row {f : Nat → Nat → Int} {a b : Nat} {v : Int} {r : Nat} (h : r ≠ a) : upd2 f a b v r = f r := by
  funext x
  exact upd2_ne fun z => h z.1
theorem fold_upd {R row : Nat} {adr : Nat → Nat} {val : Nat → Int} {D : (Nat → Nat → Int) × Option Int → Nat → (Nat → Nat → Int) × Option Int} : ∀ (js : List Nat) (rc : Nat → Nat → Int) (s : (Nat → Nat → Int) × Option Int), (∀ j ∈ js, ∀ s, D s (base + j) = (upd2 s.1 row (adr j) (val j), s.2)) → (∀ x, rc R x = s.1 row x) →
    (∀ x, (js.foldl (fun rc j => upd2 rc R (adr j) (val j)) rc) R x = ((js.map (base + ·)).foldl D s).1 row x) ∧ ∀ r, r ≠ R → (js.foldl (fun rc j => upd2 rc R (adr j) (val j)) rc) r = rc r
  | [], rc, s, _, h => ⟨h, fun _ _ => rfl⟩
  | j :: js, rc, s, hD, h => by
    have h0 := hD j List.mem_cons_self s
    obtain ⟨h1, h2⟩ := fold_upd js (upd2 rc R (adr j) (val j)) (D s (base + j)) (fun k hk => hD k (List.mem_cons_of_mem _ hk)) (fun x => by
      rw [h0]
      show upd2 rc R (adr j) (val j) R x = upd2 s.1 row (adr j) (val j) row x
      unfold upd2
      by_cases c : x = adr j
      · rw [if_pos ⟨rfl, c⟩, if_pos ⟨rfl, c⟩]
      · rw [if_neg (fun z => c z.2), if_neg (fun z => c z.2)]
        exact h x)
    exact ⟨h1, fun r hr => by rw [List.foldl_cons, h2 r hr, upd2_row hr]⟩
theorem fold_jn {row : Nat} {f : Str} {val : Nat → Int} {D : (Nat → Nat → Int) × Option Int → Nat → (Nat → Nat → Int) × Option Int} : ∀ (js : List Nat) (s : (Nat → Nat → Int) × Option Int), (∀ j ∈ js, ∀ s, D s (base + j) = (upd2 s.1 row 0 (jn f (s.1 row 0) (val j)), s.2)) →
    ∀ x, ((js.map (base + ·)).foldl D s).1 row x = if x = 0 then (js.map val).foldl (jn f) (s.1 row 0) else s.1 row x
  | [], s, _, x => by
    by_cases c : x = 0
    · rw [if_pos c, c]
      rfl
    · rw [if_neg c]
      rfl
  | j :: js, s, hD, x => by
    have h0 := hD j List.mem_cons_self s
    have ih := fold_jn js (D s (base + j)) (fun k hk => hD k (List.mem_cons_of_mem _ hk)) x
    rw [List.map_cons, List.foldl_cons, ih, h0, List.map_cons, List.foldl_cons]
    show (if x = 0 then (js.map val).foldl (jn f) (upd2 s.1 row 0 (jn f (s.1 row 0) (val j)) row 0) else upd2 s.1 row 0 (jn f (s.1 row 0) (val j)) row x) = _
    rw [upd2_same]
    by_cases c : x = 0
    · rw [if_pos c, if_pos c]
    · rw [if_neg c, if_neg c, upd2_ne (fun z => c z.2)]
theorem fold_run {R row b0 : Nat} {f : Str} {val : Nat → Int} {D : (Nat → Nat → Int) × Option Int → Nat → (Nat → Nat → Int) × Option Int} (hb : b0 = base) : ∀ (js : List Nat) (rc : Nat → Nat → Int) (s : (Nat → Nat → Int) × Option Int), (∀ j ∈ js, ∀ s, D s (base + j) = (upd2 s.1 row (base + j) (stepR f s.2 (val j)), some (stepR f s.2 (val j)))) → (∀ x, rc R x = s.1 row x) →
    (∀ x, ((js.zip (runsOf f s.2 (js.map val))).foldl (fun rc (q : Nat × Int) => upd2 rc R (b0 + q.1) q.2) rc) R x = ((js.map (base + ·)).foldl D s).1 row x) ∧ (∀ r, r ≠ R → ((js.zip (runsOf f s.2 (js.map val))).foldl (fun rc (q : Nat × Int) => upd2 rc R (b0 + q.1) q.2) rc) r = rc r) ∧ endR f s.2 (js.map val) = ((js.map (base + ·)).foldl D s).2
  | [], rc, s, _, h => by
    refine ⟨fun x => ?_, fun r _ => ?_, rfl⟩
    · cases hs : s.2 <;> exact h x
    · cases hs : s.2 <;> rfl
  | j :: js, rc, s, hD, h => by
    have h0 := hD j List.mem_cons_self s
    have e1 : runsOf f s.2 ((j :: js).map val) = stepR f s.2 (val j) :: runsOf f (some (stepR f s.2 (val j))) (js.map val) := by
      cases s.2 <;> rfl
    obtain ⟨h1, h2, h3⟩ := fold_run hb js (upd2 rc R (b0 + j) (stepR f s.2 (val j))) (D s (base + j)) (fun k hk => hD k (List.mem_cons_of_mem _ hk)) (fun x => by
      rw [h0]
      show upd2 rc R (b0 + j) (stepR f s.2 (val j)) R x = upd2 s.1 row (base + j) (stepR f s.2 (val j)) row x
      unfold upd2
      rw [hb]
      by_cases c : x = base + j
      · rw [if_pos ⟨rfl, c⟩, if_pos ⟨rfl, c⟩]
      · rw [if_neg (fun z => c z.2), if_neg (fun z => c z.2)]
        exact h x)
    have e2 : (D s (base + j)).2 = some (stepR f s.2 (val j)) := by rw [h0]
    rw [e2] at h1 h2 h3
    rw [e1]
    refine ⟨h1, fun r hr => ?_, h3⟩
    rw [List.zip_cons_cons, List.foldl_cons, h2 r hr, upd2_row hr]
/-- what a step of effect leaves as it is -/
theorem eff_step (S : Sim t nse base m W) (ht : t < 7) {st : Stp} (ok : W.ok st) (laid : W.laid st) (hd : st.due = true) (hput : ∀ row q p md, st = .put row q p md → ∀ e ∈ W.actL md, 0 ≤ W.num q e ∧ W.num q e < (W.ln row : Int)) (htn : m.tn + 1000 < 10000000)
    (hrow : ∀ x, m.rc (fr t st.erow) x = (stt W st base).1 st.erow x) (hcar : (∃ row f p md, st = .running row f p md) → m.car = (stt W st base).2) {a o : Int} {R : Option (Int × Int × Str) → MS → Int → Int → Prop}
    (hR : ∀ (r' : Nat → Nat → Int) (c' : Option Int) (t' : Nat), (∀ x, r' (fr t st.erow) x = (stt W st (base + m.width)).1 st.erow x) → (∀ r, r ≠ fr t st.erow → r' r = m.rc r) → ((∃ row f p md, st = .running row f p md) → c' = (stt W st (base + m.width)).2) → ((¬ ∃ row f p md, st = .running row f p md) → c' = m.car) → t' ≤ m.tn + 1000 → R none { m with rc := r', car := c', tn := t' } a o) : m.stp a o R (st.turn (fr t)) := by
  have wn := S.wn
  have ng := S.nsg
  have le : ∀ {p : Nat}, p < W.nse → p < 8 / m.g := fun h => by omega
  have hseg : stt W st (base + m.width) = ((m.actL st.mask).map (base + ·)).foldl (W.dueS st) (stt W st base) := by
    unfold stt
    rw [S.seg ok.1]
    unfold WS.dueL
    rw [List.foldl_append]
  rw [hseg] at hR
  have hnum : ∀ {q : Nat}, q < W.nse → (∀ e ∈ W.actL st.mask, none ∉ [W.se q e]) → ∀ j ∈ m.actL st.mask, m.sn q j = W.num q (base + j) := fun hq hl j hj => by
    have h1 := (S.act ok.1).mp (mem_actL.mp hj)
    exact S.num (by omega) h1.1 (hl _ h1.2)
  generalize hjs : m.actL st.mask = js at hR hseg hnum
  generalize stt W st base = s at hR hrow hcar hseg
  have two : ∀ {a b : Option Int}, none ∉ [a, b] → none ∉ [a] ∧ none ∉ [b] := fun {a b} h => ⟨fun z => h (by rcases List.mem_singleton.mp z with z; rw [← z]; simp), fun z => h (by rcases List.mem_singleton.mp z with z; rw [← z]; simp)⟩
  cases st with
  | store row p md =>
    have hjs' : m.actL md = js := hjs
    obtain ⟨h1, h2⟩ := fold_upd (base := base) (R := fr t row) (row := row) (adr := fun j => m.base + j) (val := m.sn p) (D := W.dueS (.store row p md)) js m.rc s (fun j hj s => by
      show (upd2 s.1 row (base + j) (W.num p (base + j)), s.2) = (upd2 s.1 row (m.base + j) (m.sn p j), s.2)
      rw [S.bs, hnum ok.2.1 laid j hj]) hrow
    refine ⟨S.on, htn, fr7, ?_, le ok.2.1, S.k16 _ ok.1, fun r' t' hr' ht' => ?_⟩
    · rw [ok.2.2, S.lens 3 (by decide), S.bs, S.lnr.2.2.2.1]
      exact S.wb
    · have hr2 : r' = js.foldl (fun rc j => upd2 rc (fr t row) (m.base + j) (m.sn p j)) m.rc := by rw [hr', hjs']
      subst hr2
      exact hR _ m.car t' h1 h2 (fun ⟨_, _, _, _, z⟩ => by cases z) (fun _ => rfl) ht'
  | put row q p md =>
    have hjs' : m.actL md = js := hjs
    have lp : ∀ e ∈ W.actL md, none ∉ [W.se p e] := fun e he => (two (laid e he)).1
    have lq : ∀ e ∈ W.actL md, none ∉ [W.se q e] := fun e he => (two (laid e he)).2
    obtain ⟨h1, h2⟩ := fold_upd (base := base) (R := fr t row) (row := row) (adr := fun j => (m.sn q j).toNat) (val := m.sn p) (D := W.dueS (.put row q p md)) js m.rc s (fun j hj s => by
      show (upd2 s.1 row (W.num q (base + j)).toNat (W.num p (base + j)), s.2) = (upd2 s.1 row (m.sn q j).toNat (m.sn p j), s.2)
      rw [hnum ok.2.1 lp j hj, hnum ok.2.2.1 lq j hj]) hrow
    refine ⟨S.on, htn, fr7, le ok.2.2.1, le ok.2.1, S.k16 _ ok.1, fun j hj => ?_, fun r' t' hr' ht' => ?_⟩
    · have hja := (S.act ok.1).mp hj
      rw [S.num (by have := ok.2.2.1; omega) hja.1 (lq _ hja.2), S.lens row (by have := ok.2.2.2; omega)]
      exact hput row q p md rfl _ hja.2
    · have hr2 : r' = js.foldl (fun rc j => upd2 rc (fr t row) (m.sn q j).toNat (m.sn p j)) m.rc := by rw [hr', hjs']
      subst hr2
      exact hR _ m.car t' h1 h2 (fun ⟨_, _, _, _, z⟩ => by cases z) (fun _ => rfl) ht'
  | fold row f p md =>
    have hjs' : m.actL md = js := hjs
    have lp : ∀ e ∈ W.actL md, none ∉ [W.se p e] := fun e he => (two (laid e he)).1
    have h1 := fold_jn (base := base) (row := row) (f := f) (val := m.sn p) (D := W.dueS (.fold row f p md)) js s (fun j hj s => by
      show (upd2 s.1 row 0 (jn f (s.1 row 0) (W.num p (base + j))), s.2) = _
      rw [hnum ok.2.1 lp j hj])
    refine ⟨S.on, htn, fr7, by rw [S.lens row (by have := ok.2.2.1; omega)]; exact S.lnr.1 row (by have := ok.2.2.1; omega), ok.2.2.2, le ok.2.1, S.k16 _ ok.1, fun t' ht' => ?_⟩
    have hrow' : ∀ x, m.rc (fr t row) x = s.1 row x := hrow
    refine hR _ m.car t' (fun x => ?_) (fun r hr => upd2_row hr) (fun ⟨_, _, _, _, z⟩ => by cases z) (fun _ => rfl) ht'
    refine Eq.trans ?_ (h1 x).symm
    show upd2 m.rc (fr t row) 0 (((m.actL md).map (m.sn p)).foldl (jn f) (m.rc (fr t row) 0)) (fr t row) x = _
    rw [hjs']
    by_cases c : x = 0
    · rw [if_pos c, c, upd2_same, hrow' 0]
    · rw [if_neg c, upd2_ne (fun z => c z.2)]
      exact hrow' x
  | running row f p md =>
    have hjs' : m.actL md = js := hjs
    have lp : ∀ e ∈ W.actL md, none ∉ [W.se p e] := fun e he => (two (laid e he)).1
    have hc := hcar ⟨_, _, _, _, rfl⟩
    obtain ⟨h1, h2, h3⟩ := fold_run (base := base) (R := fr t row) (row := row) (f := f) (val := m.sn p) (D := W.dueS (.running row f p md)) S.bs js m.rc s (fun j hj s => by
      rw [hnum ok.2.1 lp j hj]
      show (match s.2 with
        | none => (upd2 s.1 row (base + j) (W.num p (base + j)), some (W.num p (base + j)))
        | some c => (upd2 s.1 row (base + j) (jn f c (W.num p (base + j))), some (jn f c (W.num p (base + j))))) = _
      cases s.2 <;> rfl) hrow
    rw [← hc] at h1 h2 h3
    refine ⟨S.on, htn, fr7, ?_, ok.2.2.2, le ok.2.1, S.k16 _ ok.1, fun r' t' hr' ht' => ?_⟩
    · rw [ok.2.2.1, S.lens 4 (by decide), S.bs, S.lnr.2.2.2.2]
      exact S.wb
    · have hr2 : r' = (js.zip (runsOf f m.car (js.map (m.sn p)))).foldl (fun rc (q : Nat × Int) => upd2 rc (fr t row) (m.base + q.1) q.2) m.rc := by rw [hr', hjs']
      subst hr2
      rw [hjs']
      exact hR _ _ t' h1 h2 (fun _ => h3) (fun z => (z ⟨_, _, _, _, rfl⟩).elim) ht'
  | _ => cases hd
end
end Rb
end

section
set_option Elab.async false
set_option linter.all false
set_option maxRecDepth 100000
set_option maxHeartbeats 4000000
namespace Rb
open PySem PySem.Spec PyProof.Rows L2
/-! ### all strips -/
theorem runs_seq {W0 W : WS} {l : List Stp} (h : Runs W0 l W) : ∃ ws : Nat → WS, ws 0 = W0 ∧ ws l.length = W ∧ ∀ i st, l[i]? = some st → (ws i).good st ∧ ws (i + 1) = (ws i).step st := by
  induction h with
  | nil => exact ⟨fun _ => W0, rfl, rfl, fun i st h => by simp at h⟩
  | @snoc W l st h g ih =>
    obtain ⟨ws, h1, h2, h3⟩ := ih
    refine ⟨fun i => if i ≤ l.length then ws i else W.step st, ?_, ?_, fun i st' hi => ?_⟩
    · show (if 0 ≤ l.length then ws 0 else _) = W0
      rw [if_pos (Nat.zero_le _)]
      exact h1
    · show (if (l ++ [st]).length ≤ l.length then _ else W.step st) = _
      rw [if_neg (by simp)]
    · show (if i ≤ l.length then ws i else W.step st).good st' ∧ (if i + 1 ≤ l.length then ws (i + 1) else W.step st) = (if i ≤ l.length then ws i else W.step st).step st'
      by_cases c : i < l.length
      · rw [List.getElem?_append_left c] at hi
        rw [if_pos (by omega), if_pos (by omega)]
        exact h3 i st' hi
      · have hlen := (List.getElem?_eq_some_iff.mp hi).1
        rw [List.length_append] at hlen
        simp at hlen
        have e : i = l.length := by omega
        subst e
        rw [List.getElem?_append_right (Nat.le_refl _)] at hi
        simp at hi
        subst hi
        rw [if_pos (Nat.le_refl _), if_neg (by omega), h2]
        exact ⟨g, rfl⟩
theorem Sim.weaken {t nse base : Nat} {m : MS} {W : WS} (S : Sim t nse base m W) {W' : WS} (h1 : W'.many = W.many) (h2 : W'.nse = W.nse) (h3 : ∀ k ∈ W'.ks, k ∈ W.ks) (h4 : W'.ln = W.ln) (h5 : W'.pr = W.pr) (h6 : ∀ e, e < W.many → W'.fa e = W.fa e) (h7 : ∀ k ∈ W'.ks, ∀ e, e < W.many → W'.wm k e = W.wm k e) (h8 : ∀ q, q < nse → ∀ e, e < W.many → ∀ v, W'.se q e = some v → W.se q e = some v) (h9 : ∀ s, s < 60 → ∀ e, e < W.many → ∀ v, W'.so s e = some v → W.so s e = some v) : Sim t nse base m W' := by
  have wb := S.wb
  refine ⟨S.on, S.nsg, S.bs, by rw [h1]; exact S.wb, S.wg, by rw [h2]; exact S.wn, fun k hk => S.k16 k (h3 k hk), by rw [h4, h1]; exact S.lnr, by rw [h5]; exact S.rows, by rw [h4]; exact S.lens, fun j hj => ?_, fun k hk j hj => ?_, fun q hq j hj v hv => ?_, fun s hs j hj v hv => ?_⟩
  · rw [S.fl j hj, h6 _ (by omega)]
  · rw [S.ma k (h3 k hk) j hj, h7 k hk _ (by omega)]
  · exact S.sn q hq j hj v (h8 q hq _ (by omega) v hv)
  · exact S.sl s hs j hj v (h9 s hs _ (by omega) v hv)
theorem Sim.narrow {t nse base : Nat} {m : MS} {W : WS} (S : Sim t nse base m W) {c : Nat} (hc : c ≤ m.width) : Sim t nse base { m with cut := some c, width := c } W := by
  have wb := S.wb
  have wg := S.wg
  exact ⟨S.on, S.nsg, S.bs, (by show base + c ≤ W.many; omega), (by show c ≤ m.g * m.lanes; omega), S.wn, S.k16, S.lnr, S.rows, S.lens, fun j hj => S.fl j (Nat.lt_of_lt_of_le hj hc), fun k hk j hj => S.ma k hk j (Nat.lt_of_lt_of_le hj hc), fun q hq j hj => S.sn q hq j (Nat.lt_of_lt_of_le hj hc), fun s hs j hj => S.sl s hs j (Nat.lt_of_lt_of_le hj hc)⟩
theorem Sim.rowsCar {t nse base : Nat} {m : MS} {W : WS} (S : Sim t nse base m W) {r' : Nat → Nat → Int} {c' : Option Int} {t' : Nat} (h : ∀ r, r < 3 → ∀ i, r' (fr t r) i = W.pr r i) : Sim t nse base { m with rc := r', car := c', tn := t' } W :=
  ⟨S.on, S.nsg, S.bs, S.wb, S.wg, S.wn, S.k16, S.lnr, h, S.lens, S.fl, S.ma, S.sn, S.sl⟩
structure Setup (t nse many g lanes : Nat) (ln : Nat → Nat) (pr : Nat → Nat → Int) (W0 Wf : WS) (body B : List Stp) : Prop where
  t7 : t < 7
  g3 : g = 1 ∨ g = 2 ∨ g = 4
  l1 : 1 ≤ lanes
  l2 : lanes ≤ 64
  n0 : 0 < nse
  n2 : nse ≤ 8 / g
  P : PartsOK ln pr many
  w_n : W0.nse = nse
  w_m : W0.many = many
  w_l : W0.ln = ln
  w_p : W0.pr = pr
  w_k : W0.ks = [0]
  w_a : ∀ e, e < many → W0.wm 0 e = true
  w_f : ∀ e, W0.fa e = none
  w_s : ∀ q e, q < nse → e < many → W0.se q e = some (pr (q % 2) e)
  w_o : ∀ s e, W0.so s e = none
  run : Runs W0 body Wf
  lst : body.getLast? = some .trim
  bl : body.length ≤ 60
  Bok : ∀ st ∈ B, Wf.ok st ∧ Wf.laid st ∧ st.due = true
  Bput : ∀ row q p md, Stp.put row q p md ∈ B → ∀ e ∈ Wf.actL md, 0 ≤ Wf.num q e ∧ Wf.num q e < (Wf.ln row : Int)
  Bnd : (B.map Stp.erow).Nodup
  Bl : B.length ≤ 4
def loadsOf (nse : Nat) : List Stp := (List.range nse).map fun p => Stp.load p (p % 2) 0
def lenOf (t : Nat) (ln : Nat → Nat) : List Nat := (List.range 7).map fun k => ln (gr t k)
def codeOf (t nse : Nat) (body B : List Stp) (n : Int) : List Stp := ((loadsOf nse ++ body ++ B).map (Stp.turn (fr t))) ++ [.stop n, .next]
def isRun (st : Stp) : Prop := ∃ row f p md, st = .running row f p md
/-- the rows: the first k effects are done up to b1, the others up to b0 -/
def RowsAt (t : Nat) (pr : Nat → Nat → Int) (Wf : WS) (B : List Stp) (k b0 b1 : Nat) (m : MS) : Prop :=
  (∀ i st, B[i]? = some st → (∀ x, m.rc (fr t st.erow) x = (stt Wf st (if i < k then b1 else b0)).1 st.erow x) ∧ (isRun st → m.car = (stt Wf st (if i < k then b1 else b0)).2)) ∧
  ∀ r, r < 7 → (∀ st ∈ B, st.erow ≠ r) → ∀ x, m.rc (fr t r) x = pr r x
def CutOK (base : Nat) (m : MS) (W : WS) : Prop := m.width ≤ m.began ∧ (m.cut = none → m.width = m.began) ∧ ∀ c, m.cut = some c → c = m.width ∧ c < m.began ∧ ∃ f, m.fl c = some f ∧ W.fa (base + c) = some f
def Wl (W0 : WS) (i : Nat) : WS := { W0 with se := fun q e => if q < i then W0.se q e else none }
inductive Ph (t nse : Nat) (pr : Nat → Nat → Int) (W0 Wf : WS) (ws : Nat → WS) (body B : List Stp) : Nat → Nat → MS → Prop
  | load {i base : Nat} {m : MS} (h : i < nse) (S : Sim t nse base m (Wl W0 i)) (c : m.cut = none) (w : m.width = m.began) (r : RowsAt t pr Wf B 0 base base m) : Ph t nse pr W0 Wf ws body B i base m
  | body {i base : Nat} {m : MS} (i2 : Nat) (e : i = nse + i2) (h : i2 < body.length) (S : Sim t nse base m (ws i2)) (c : CutOK base m (ws i2)) (r : RowsAt t pr Wf B 0 base base m) : Ph t nse pr W0 Wf ws body B i base m
  | eff {i base : Nat} {m : MS} (k : Nat) (e : i = nse + body.length + k) (h : k ≤ B.length) (S : Sim t nse base m Wf) (c : CutOK base m Wf) (u : ∀ j, j < m.width → m.fl j = none) (r : RowsAt t pr Wf B k base (base + m.width) m) : Ph t nse pr W0 Wf ws body B i base m
  | nxt {i base : Nat} {m : MS} (e : i = nse + body.length + B.length + 1) (S : Sim t nse base m Wf) (c : m.cut = none) (w : m.width = m.began) (u : ∀ j, j < m.width → m.fl j = none) (r : RowsAt t pr Wf B B.length base (base + m.width) m) : Ph t nse pr W0 Wf ws body B i base m
def Fin (t many : Nat) (ln : Nat → Nat) (pr : Nat → Nat → Int) (Wf : WS) (B : List Stp) (n : Int) (m : MS) (ref : Option (Int × Int × Str)) : Prop :=
  m.len = lenOf t ln ∧ ∃ least, least ≤ many ∧ (∀ e, e < least → Wf.fa e = none) ∧ ((least = many ∧ ref = none) ∨ (least < many ∧ ∃ f, Wf.fa least = some f ∧ ref = some (n, (least : Int), f))) ∧
    (∀ st ∈ B, ∀ x, m.rc (fr t st.erow) x = (stt Wf st least).1 st.erow x) ∧ ∀ r, r < 7 → (∀ st ∈ B, st.erow ≠ r) → ∀ x, m.rc (fr t r) x = pr r x
structure Com (t many g lanes : Nat) (ln : Nat → Nat) (base a : Nat) (m : MS) : Prop where
  cg : m.g = g
  cl : m.lanes = lanes
  cn : m.len = lenOf t ln
  cm : m.many = many
  cb : m.began = min (many - base) (g * lanes)
  ct : m.tn ≤ 1000 * (100 * base + a)
theorem Com.fix {t many g lanes : Nat} {ln : Nat → Nat} {base a : Nat} {m m' : MS} (C : Com t many g lanes ln base a m) (F : Fix m m') (h : m'.tn ≤ m.tn + 1000) : Com t many g lanes ln base (a + 1) m' := by
  have ht := C.ct
  exact ⟨F.g.trans C.cg, F.lanes.trans C.cl, F.len.trans C.cn, F.many.trans C.cm, F.began.trans C.cb, by omega⟩
theorem RowsAt.fix {t : Nat} {pr : Nat → Nat → Int} {Wf : WS} {B : List Stp} {k b0 b1 : Nat} {m m' : MS} (r : RowsAt t pr Wf B k b0 b1 m) (h1 : m'.rc = m.rc) (h2 : m'.car = m.car) : RowsAt t pr Wf B k b0 b1 m' := by
  unfold RowsAt
  rw [h1, h2]
  exact r
section
variable {t nse many g lanes : Nat} {ln : Nat → Nat} {pr : Nat → Nat → Int} {W0 Wf : WS} {body B : List Stp} {n : Int}
theorem Setup.erow (U : Setup t nse many g lanes ln pr W0 Wf body B) {st : Stp} (h : st ∈ B) : 3 ≤ st.erow ∧ st.erow < 7 := by
  obtain ⟨ok, _, hd⟩ := U.Bok st h
  cases st with
  | store row p md => have := ok.2.2; exact ⟨by show 3 ≤ row; omega, by show row < 7; omega⟩
  | put row q p md => have := ok.2.2.2; exact ⟨by show 3 ≤ row; omega, by show row < 7; omega⟩
  | fold row f p md => have := ok.2.2.1; exact ⟨by show 3 ≤ row; omega, by show row < 7; omega⟩
  | running row f p md => have := ok.2.2.1; exact ⟨by show 3 ≤ row; omega, by show row < 7; omega⟩
  | _ => cases hd
theorem Setup.low (U : Setup t nse many g lanes ln pr W0 Wf body B) {k b0 b1 : Nat} {m : MS} (r : RowsAt t pr Wf B k b0 b1 m) : ∀ r, r < 3 → ∀ i, m.rc (fr t r) i = pr r i := fun r' hr i => r.2 r' (by omega) (fun st hst => by have := (U.erow hst).1; omega) i
theorem Setup.lens (U : Setup t nse many g lanes ln pr W0 Wf body B) {m : MS} (h : m.len = lenOf t ln) : ∀ r, r < 7 → m.ln (fr t r) = ln r := fun r hr => by
  unfold MS.ln
  rw [h, lenOf, List.getD_eq_getElem?_getD, rm_get fr7]
  show ln (gr t (fr t r)) = ln r
  rw [gr_fr U.t7 hr]
theorem Setup.keep (U : Setup t nse many g lanes ln pr W0 Wf body B) : Wf.nse = nse ∧ Wf.ln = ln ∧ Wf.pr = pr ∧ Wf.many = many := by
  obtain ⟨h1, h2, h3, h4⟩ := Runs.keep U.run
  exact ⟨h1.trans U.w_n, h2.trans U.w_l, h3.trans U.w_p, h4.trans U.w_m⟩
/-- a strip begins -/
theorem Setup.start (U : Setup t nse many g lanes ln pr W0 Wf body B) {m : MS} {base : Nat} {ma' : Nat → Nat → Bool} (hb : base < many) (hg : m.g = g) (hl : m.lanes = lanes) (hlen : m.len = lenOf t ln) (h0 : ∀ j, j < min (many - base) (g * lanes) → ma' 0 j = true) {ws : Nat → WS} (r : RowsAt t pr Wf B 0 base base m) : Ph t nse pr W0 Wf ws body B 0 base (m.begun many base ma') := by
  refine .load U.n0 ?_ rfl rfl (r.fix rfl rfl)
  have hP := U.P
  refine ⟨rfl, ?_, rfl, ?_, Nat.min_le_right _ _, U.w_n, fun k hk => ?_, ?_, fun r' hr i => ?_, fun r' hr => ?_, fun j hj => ?_, fun k hk j hj => ?_, fun q hq j hj v hv => ?_, fun s hs j hj v hv => ?_⟩
  · show nse ≤ 8 / m.g
    rw [hg]
    exact U.n2
  · show base + min (many - base) (m.g * m.lanes) ≤ W0.many
    rw [U.w_m]
    omega
  · have hk' : k ∈ W0.ks := hk
    rw [U.w_k] at hk'
    simp at hk'
    omega
  · show (∀ r, r < 7 → 0 < W0.ln r) ∧ W0.ln 0 = W0.many ∧ W0.ln 1 = W0.many ∧ W0.ln 3 = W0.many ∧ W0.ln 4 = W0.many
    rw [U.w_l, U.w_m]
    refine ⟨fun r hr => ?_, hP.l0, hP.l1, hP.l3, hP.l4⟩
    have h7 : r = 0 ∨ r = 1 ∨ r = 2 ∨ r = 3 ∨ r = 4 ∨ r = 5 ∨ r = 6 := by omega
    have m0 := hP.m0
    rcases h7 with rfl | rfl | rfl | rfl | rfl | rfl | rfl
    · rw [hP.l0]; exact m0
    · rw [hP.l1]; exact m0
    · exact hP.l2.1
    · rw [hP.l3]; exact m0
    · rw [hP.l4]; exact m0
    · exact hP.l5.1
    · exact hP.l6.1
  · show m.rc (fr t r') i = W0.pr r' i
    rw [U.w_p]
    exact U.low r r' hr i
  · show m.ln (fr t r') = W0.ln r'
    rw [U.w_l]
    exact U.lens hlen r' hr
  · show none = W0.fa (base + j)
    rw [U.w_f]
  · have hk' : k ∈ W0.ks := hk
    rw [U.w_k] at hk'
    simp at hk'
    subst hk'
    have hj' : j < min (many - base) (m.g * m.lanes) := hj
    rw [hg, hl] at hj'
    show ma' 0 j = W0.wm 0 (base + j)
    rw [h0 j hj', U.w_a _ (by omega)]
  · have hv' : (if q < 0 then W0.se q (base + j) else none) = some v := hv
    rw [if_neg (Nat.not_lt_zero _)] at hv'
    cases hv'
  · have hv' : W0.so s (base + j) = some v := hv
    rw [U.w_o] at hv'
    cases hv'
theorem loadsOf_len {nse : Nat} : (loadsOf nse).length = nse := by
  unfold loadsOf
  rw [List.length_map, List.length_range]
theorem codeOf_len {t nse : Nat} {body B : List Stp} {n : Int} : (codeOf t nse body B n).length = nse + body.length + B.length + 2 := by
  unfold codeOf
  rw [List.length_append, List.length_map, List.length_append, List.length_append, loadsOf_len]
  rfl
theorem code_load {t nse : Nat} {body B : List Stp} {n : Int} {i : Nat} (h : i < nse) : (codeOf t nse body B n)[i]? = some (Stp.load i (fr t (i % 2)) 0) := by
  unfold codeOf
  rw [List.getElem?_append_left (by rw [List.length_map, List.length_append, List.length_append, loadsOf_len]; omega), List.getElem?_map, List.getElem?_append_left (by rw [List.length_append, loadsOf_len]; omega), List.getElem?_append_left (by rw [loadsOf_len]; exact h)]
  unfold loadsOf
  rw [rm_get h]
  rfl
theorem code_body {t nse : Nat} {body B : List Stp} {n : Int} {i : Nat} (h : i < body.length) : (codeOf t nse body B n)[nse + i]? = some (body[i].turn (fr t)) := by
  unfold codeOf
  rw [List.getElem?_append_left (by rw [List.length_map, List.length_append, List.length_append, loadsOf_len]; omega), List.getElem?_map, List.getElem?_append_left (by rw [List.length_append, loadsOf_len]; omega), List.getElem?_append_right (by rw [loadsOf_len]; omega), loadsOf_len, Nat.add_sub_cancel_left, List.getElem?_eq_getElem h]
  rfl
theorem code_eff {t nse : Nat} {body B : List Stp} {n : Int} {i : Nat} (h : i < B.length) : (codeOf t nse body B n)[nse + body.length + i]? = some (B[i].turn (fr t)) := by
  unfold codeOf
  rw [List.getElem?_append_left (by rw [List.length_map, List.length_append, List.length_append, loadsOf_len]; omega), List.getElem?_map, List.getElem?_append_right (by rw [List.length_append, loadsOf_len]; omega), List.length_append, loadsOf_len, Nat.add_sub_cancel_left, List.getElem?_eq_getElem h]
  rfl
theorem code_stop {t nse : Nat} {body B : List Stp} {n : Int} : (codeOf t nse body B n)[nse + body.length + B.length]? = some (.stop n) := by
  unfold codeOf
  rw [List.getElem?_append_right (by rw [List.length_map, List.length_append, List.length_append, loadsOf_len]; omega), List.length_map, List.length_append, List.length_append, loadsOf_len, Nat.sub_self]
  rfl
theorem code_next {t nse : Nat} {body B : List Stp} {n : Int} : (codeOf t nse body B n)[nse + body.length + B.length + 1]? = some .next := by
  unfold codeOf
  rw [List.getElem?_append_right (by rw [List.length_map, List.length_append, List.length_append, loadsOf_len]; omega), List.length_map, List.length_append, List.length_append, loadsOf_len, show nse + body.length + B.length + 1 - (nse + body.length + B.length) = 1 by omega]
  rfl
theorem nd_ixN {as : List Nat} (nd : as.Nodup) {i j x : Nat} (hi : as[i]? = some x) (hj : as[j]? = some x) : i = j := by
  induction as generalizing i j with
  | nil => simp at hi
  | cons y r ih =>
    have hy := List.nodup_cons.mp nd
    cases i with
    | zero =>
      cases j with
      | zero => rfl
      | succ j =>
        exfalso
        have e1 : y = x := by simpa using hi
        have e2 : r[j]? = some x := by simpa using hj
        exact hy.1 (by rw [e1]; exact List.mem_of_getElem? e2)
    | succ i =>
      cases j with
      | zero =>
        exfalso
        have e1 : y = x := by simpa using hj
        have e2 : r[i]? = some x := by simpa using hi
        exact hy.1 (by rw [e1]; exact List.mem_of_getElem? e2)
      | succ j =>
        have e1 : r[i]? = some x := by simpa using hi
        have e2 : r[j]? = some x := by simpa using hj
        rw [ih hy.2 e1 e2]
theorem fr_inj {t : Nat} (ht : t < 7) {r1 r2 : Nat} (h1 : r1 < 7) (h2 : r2 < 7) (e : fr t r1 = fr t r2) : r1 = r2 := by
  rw [← gr_fr ht h1, ← gr_fr ht h2, e]
theorem RowsAt.z {t : Nat} {pr : Nat → Nat → Int} {Wf : WS} {B : List Stp} {b0 b1 b1' : Nat} {m : MS} (r : RowsAt t pr Wf B 0 b0 b1 m) : RowsAt t pr Wf B 0 b0 b1' m := by
  refine ⟨fun i st hi => ?_, r.2⟩
  have h := r.1 i st hi
  rw [if_neg (Nat.not_lt_zero _)] at h ⊢
  exact h
theorem Setup.load_next (U : Setup t nse many g lanes ln pr W0 Wf body B) {i base : Nat} {m : MS} (h : i < nse) (S : Sim t nse base m ((Wl W0 i).played (.load i (i % 2) 0))) : Sim t nse base m (Wl W0 (i + 1)) := by
  have hfl : ∀ e, (Wl W0 i).flf e (.load i (i % 2) 0) = none := fun e => rfl
  refine S.weaken rfl rfl (fun k hk => hk) rfl rfl (fun e he => ?_) (fun k hk e he => rfl) (fun q hq e he v hv => ?_) (fun s hs e he v hv => hv)
  · show W0.fa e = (Wl W0 i).faF (.load i (i % 2) 0) e
    unfold WS.faF
    rw [if_neg (fun z => by rw [hfl] at z; cases z.2)]
    rfl
  · have hv' : (if q < i + 1 then W0.se q e else none) = some v := hv
    show (if q = i then (Wl W0 i).layF 0 ((Wl W0 i).gotO (.load i (i % 2) 0)) e else if q < i then W0.se q e else none) = some v
    by_cases c : q = i
    · subst c
      rw [if_pos (by omega)] at hv'
      have hem : e < many := by
        have : e < W0.many := he
        rw [U.w_m] at this
        exact this
      rw [U.w_s q e h hem] at hv'
      rw [if_pos rfl]
      unfold WS.layF
      have ha : e ∈ (Wl W0 q).actL 0 := by
        refine mem_wact.mpr ⟨he, ?_⟩
        show (W0.wm 0 e && (W0.fa e).isNone) = true
        rw [U.w_a e hem, U.w_f]
        rfl
      rw [if_pos ha, ← hv']
      show some (W0.pr (q % 2) e) = _
      rw [U.w_p]
    · rw [if_neg c]
      by_cases d : q < i
      · rw [if_pos d]
        rw [if_pos (by omega)] at hv'
        exact hv'
      · rw [if_neg (by omega)] at hv'
        cases hv'
theorem Setup.loaded (U : Setup t nse many g lanes ln pr W0 Wf body B) {base : Nat} {m : MS} (S : Sim t nse base m (Wl W0 nse)) : Sim t nse base m W0 := by
  refine S.weaken rfl rfl (fun k hk => hk) rfl rfl (fun e he => rfl) (fun k hk e he => rfl) (fun q hq e he v hv => ?_) (fun s hs e he v hv => hv)
  show (if q < nse then W0.se q e else none) = some v
  rw [if_pos hq]
  exact hv
theorem Setup.plays (U : Setup t nse many g lanes ln pr W0 Wf body B) : Plays (.begin many g :: codeOf t nse body B n) (MS.made g lanes (lenOf t ln) (fun k i => pr (gr t k) i)) (Fin t many ln pr Wf B n) := by
  obtain ⟨ws, hw0, hwf, hws⟩ := runs_seq U.run
  obtain ⟨kn, kl, kp, km⟩ := U.keep
  have hP := U.P
  have m0 := hP.m0
  have m40 := hP.m1
  have hbl := U.bl
  have hBl := U.Bl
  have hn8 : nse ≤ 8 := by
    have := U.n2
    have h8 : 8 / g ≤ 8 := Nat.div_le_self 8 g
    omega
  have hbne : 0 < body.length := by
    cases hb : body with
    | nil => have := U.lst; rw [hb] at this; cases this
    | cons x r => simp
  have hlastb : ∀ h : body.length - 1 < body.length, body[body.length - 1] = .trim := fun h => by
    have := U.lst
    rw [List.getLast?_eq_getElem?, List.getElem?_eq_getElem h] at this
    exact Option.some.inj this
  have made_rows : RowsAt t pr Wf B 0 0 0 (MS.made g lanes (lenOf t ln) (fun k i => pr (gr t k) i)) := by
    refine ⟨fun i st hi => ⟨fun x => ?_, fun _ => ?_⟩, fun r hr _ x => ?_⟩
    · rw [if_neg (Nat.not_lt_zero _), stt0]
      show pr (gr t (fr t st.erow)) x = Wf.pr st.erow x
      rw [gr_fr U.t7 (U.erow (List.mem_of_getElem? hi)).2, kp]
    · rw [if_neg (Nat.not_lt_zero _), stt0]
      rfl
    · show pr (gr t (fr t r)) x = pr r x
      rw [gr_fr U.t7 hr]
  refine ⟨fun a o m => (a = 0 ∧ o = 0 ∧ m = MS.made g lanes (lenOf t ln) (fun k i => pr (gr t k) i)) ∨ (o = 1 ∧ 1 ≤ a ∧ ∃ base, base < many ∧ m.base = base ∧ Com t many g lanes ln base a m ∧ (∀ e, e < base → Wf.fa e = none) ∧ Ph t nse pr W0 Wf ws body B (a - 1) base m) ∨ (1 ≤ a ∧ (codeOf t nse body B n).length + 1 ≤ a ∧ Fin t many ln pr Wf B n m none),
    fun a _ m => if a = 0 then 100000 else (many - m.base) * 200 + (150 - a), .inl ⟨rfl, rfl, rfl⟩, ?_, ?_⟩
  · rintro a o m st (⟨rfl, rfl, rfl⟩ | ⟨rfl, ha, base, hb, hmb, C, hun, ph⟩ | ⟨ha, hlen, hF⟩) hst
    · -- begin
      have e : st = .begin many g := by
        have h1 : (some (Stp.begin many g)) = some st := hst
        exact (Option.some.inj h1).symm
      subst e
      refine ⟨rfl, by omega, fun ma' h1 h2 => ⟨1, 1, rfl, rfl, .inr (.inl ⟨rfl, Nat.le_refl _, 0, m0, rfl, ⟨rfl, rfl, rfl, rfl, rfl, Nat.zero_le _⟩, fun e he => absurd he (Nat.not_lt_zero e), ?_⟩), ?_⟩⟩
      · exact U.start m0 rfl rfl rfl (fun j hj => h2 j (by rw [Nat.sub_zero] at hj; exact hj)) (made_rows.fix rfl rfl)
      · show (if 1 = 0 then 100000 else (many - 0) * 200 + (150 - 1)) < 100000
        rw [if_neg (by decide)]
        omega
    · -- a step of a strip
      have hct := C.ct
      have hcode : (codeOf t nse body B n)[a - 1]? = some st := by
        have e : a = (a - 1) + 1 := by omega
        rw [e, List.getElem?_cons_succ] at hst
        exact hst
      have hlt : a - 1 < nse + body.length + B.length + 2 := by
        have := (List.getElem?_eq_some_iff.mp hcode).1
        rw [codeOf_len] at this
        exact this
      have htn : m.tn + 1000 < 10000000 := by omega
      have mu : ∀ m' : MS, m'.base = base → (if a + 1 = 0 then 100000 else (many - m'.base) * 200 + (150 - (a + 1))) < (if a = 0 then 100000 else (many - m.base) * 200 + (150 - a)) := fun m' h => by
        rw [if_neg (by omega), if_neg (by omega), h, hmb]
        omega
      have a1 : a + 1 - 1 = (a - 1) + 1 := by omega
      have go : ∀ m' : MS, m'.base = base → Com t many g lanes ln base (a + 1) m' → Ph t nse pr W0 Wf ws body B (a - 1 + 1) base m' → ∃ a2 o2 : Nat, ((a + 1 : Nat) : Int) = (a2 : Int) ∧ ((1 : Nat) : Int) = (o2 : Int) ∧ ((a2 = 0 ∧ o2 = 0 ∧ m' = MS.made g lanes (lenOf t ln) (fun k i => pr (gr t k) i)) ∨ (o2 = 1 ∧ 1 ≤ a2 ∧ ∃ base, base < many ∧ m'.base = base ∧ Com t many g lanes ln base a2 m' ∧ (∀ e, e < base → Wf.fa e = none) ∧ Ph t nse pr W0 Wf ws body B (a2 - 1) base m') ∨ (1 ≤ a2 ∧ (codeOf t nse body B n).length + 1 ≤ a2 ∧ Fin t many ln pr Wf B n m' none)) ∧ (if a2 = 0 then 100000 else (many - m'.base) * 200 + (150 - a2)) < (if a = 0 then 100000 else (many - m.base) * 200 + (150 - a)) := fun m' h1 h2 h3 =>
        ⟨a + 1, 1, rfl, rfl, .inr (.inl ⟨rfl, by omega, base, hb, h1, h2, hun, by rw [a1]; exact h3⟩), mu m' h1⟩
      generalize hi : a - 1 = i at *
      cases ph with
      | load h S c w r =>
        have e1 := code_load (t := t) (body := body) (B := B) (n := n) h
        rw [hcode] at e1
        have e2 := Option.some.inj e1
        subst e2
        have ok : (Wl W0 i).ok (.load i (i % 2) 0) := ⟨by show 0 ∈ W0.ks; rw [U.w_k]; simp, by show i < W0.nse; rw [U.w_n]; exact h, Nat.mod_lt _ (by decide)⟩
        refine sim_step S ok (fun e he hm => by cases hm) rfl htn fun m' S' ht' F => go m' (F.base.trans hmb) (C.fix F ht') ?_
        have S2 := U.load_next h S'
        have hc' : m'.cut = none := F.cut.trans c
        have hw' : m'.width = m'.began := F.width.trans (w.trans F.began.symm)
        by_cases hd : i + 1 < nse
        · exact .load hd S2 hc' hw' (r.fix F.rc F.car)
        · have e3 : i + 1 = nse := by omega
          rw [e3] at S2
          refine .body 0 (by omega) hbne (by rw [hw0]; exact U.loaded S2) ⟨by omega, fun _ => hw', fun c' hx => by rw [hc'] at hx; cases hx⟩ (r.fix F.rc F.car)
      | body i2 e h S c r =>
        have e1 := code_body (t := t) (nse := nse) (B := B) (n := n) h
        rw [← e, hcode] at e1
        have e2 := Option.some.inj e1
        subst e2
        obtain ⟨hg, hnx⟩ := hws i2 body[i2] (List.getElem?_eq_getElem h)
        have pos : ∀ m' : MS, m'.base = base → Sim t nse base m' (ws (i2 + 1)) → CutOK base m' (ws (i2 + 1)) → RowsAt t pr Wf B 0 base base m' → (i2 + 1 = body.length → ∀ j, j < m'.width → m'.fl j = none) → Ph t nse pr W0 Wf ws body B (i + 1) base m' := fun m' hb' S' c' r' u' => by
          by_cases hd : i2 + 1 < body.length
          · exact .body (i2 + 1) (by omega) hd S' c' r'
          · have e3 : i2 + 1 = body.length := by omega
            rw [e3, hwf] at S' c'
            exact .eff 0 (by omega) (Nat.zero_le _) S' c' (u' e3) r'.z
        rcases hg with htr | ⟨ok, laid, hp⟩
        · have hst : (ws (i2 + 1)) = ws i2 := by rw [hnx, htr]; rfl
          rw [htr]
          refine ⟨S.on, fun c' hx => (c.2.2 c' hx).1, fun c' hcw hsome hall => ?_, fun hall => ?_⟩
          · have hC : Com t many g lanes ln base (a + 1) { m with cut := some c', width := c' } := ⟨C.cg, C.cl, C.cn, C.cm, C.cb, by show m.tn ≤ _; omega⟩
            refine go { m with cut := some c', width := c' } hmb hC (pos _ hmb (by rw [hst]; exact S.narrow (by omega)) ?_ (r.fix rfl rfl) (fun _ j hj => hall j hj))
            rw [hst]
            have hwb := c.1
            refine ⟨by show c' ≤ m.began; omega, fun hx => (by cases hx), fun c2 hx => ?_⟩
            have e4 : c' = c2 := Option.some.inj hx
            subst e4
            refine ⟨rfl, by show c' < m.began; omega, ?_⟩
            obtain ⟨f, hf⟩ := Option.isSome_iff_exists.mp hsome
            exact ⟨f, hf, by rw [← S.fl c' hcw]; exact hf⟩
          · have hC : Com t many g lanes ln base (a + 1) m := ⟨C.cg, C.cl, C.cn, C.cm, C.cb, by omega⟩
            exact go m hmb hC (pos m hmb (by rw [hst]; exact S) (by rw [hst]; exact c) r (fun _ => hall))
        · refine sim_step S ok laid hp htn fun m' S' ht' F => go m' (F.base.trans hmb) (C.fix F ht') (pos m' (F.base.trans hmb) (by rw [hnx, step_pl hp]; exact S') ?_ (r.fix F.rc F.car) (fun hx => ?_))
          · rw [hnx, step_pl hp]
            refine ⟨by rw [F.width, F.began]; exact c.1, fun hx => ?_, fun c' hx => ?_⟩
            · rw [F.cut] at hx
              rw [F.width, F.began]
              exact c.2.1 hx
            · rw [F.cut] at hx
              obtain ⟨k1, k2, f, k3, k4⟩ := c.2.2 c' hx
              exact ⟨by rw [F.width]; exact k1, by rw [F.began]; exact k2, f, by rw [F.flc c' (by omega)]; exact k3, fault_stays k4⟩
          · exfalso
            have h9 : i2 = body.length - 1 := by omega
            have h8 := hlastb (by omega)
            subst h9
            rw [h8] at hp
            cases hp
      | eff k e h S c u r =>
        by_cases hk : k < B.length
        · have e1 := code_eff (t := t) (nse := nse) (body := body) (n := n) hk
          rw [← e, hcode] at e1
          have e2 := Option.some.inj e1
          subst e2
          have hmem : B[k] ∈ B := List.getElem_mem hk
          have hBk : B[k]? = some B[k] := List.getElem?_eq_getElem hk
          obtain ⟨ok, laid, hd⟩ := U.Bok _ hmem
          have rk := r.1 k B[k] hBk
          rw [if_neg (Nat.lt_irrefl _)] at rk
          have hrow7 := U.erow hmem
          refine eff_step S U.t7 ok laid hd (fun row q p md hx => U.Bput row q p md (by rw [← hx]; exact hmem)) htn rk.1 rk.2 fun r' c' t' h1 h2 h3 h4 ht' => ?_
          have hoth : ∀ r, r < 7 → r ≠ B[k].erow → ∀ x, r' (fr t r) x = m.rc (fr t r) x := fun r hr hne x => by
            rw [h2 (fr t r) (fun z => hne (fr_inj U.t7 hr hrow7.2 z))]
          have hC : Com t many g lanes ln base (a + 1) { m with rc := r', car := c', tn := t' } := ⟨C.cg, C.cl, C.cn, C.cm, C.cb, by show t' ≤ _; omega⟩
          refine go { m with rc := r', car := c', tn := t' } hmb hC (.eff (k + 1) (by omega) (by omega) (S.rowsCar fun r hr i => ?_) c u ⟨fun i2 st hi2 => ?_, fun r2 hr2 hno x => ?_⟩)
          · rw [hoth r (by omega) (by omega) i]
            exact S.rows r hr i
          · by_cases hik : i2 = k
            · subst hik
              rw [hBk] at hi2
              have e5 := Option.some.inj hi2
              subst e5
              rw [if_pos (Nat.lt_succ_self _)]
              exact ⟨h1, h3⟩
            · have hm2 := List.mem_of_getElem? hi2
              have hne : st.erow ≠ B[k].erow := fun z => by
                have q1 : (B.map Stp.erow)[i2]? = some st.erow := by rw [List.getElem?_map, hi2]; rfl
                have q2 : (B.map Stp.erow)[k]? = some B[k].erow := by rw [List.getElem?_map, hBk]; rfl
                rw [z] at q1
                exact hik (nd_ixN U.Bnd q1 q2)
              have r2 := r.1 i2 st hi2
              have hif : (if i2 < k + 1 then base + m.width else base) = (if i2 < k then base + m.width else base) := by
                by_cases d : i2 < k
                · rw [if_pos d, if_pos (by omega)]
                · rw [if_neg d, if_neg (by omega)]
              show (∀ x, r' (fr t st.erow) x = (stt Wf st (if i2 < k + 1 then base + m.width else base)).1 st.erow x) ∧ (isRun st → c' = (stt Wf st (if i2 < k + 1 then base + m.width else base)).2)
              rw [hif]
              refine ⟨fun x => by rw [hoth _ (U.erow hm2).2 hne x]; exact r2.1 x, fun hru => ?_⟩
              have hnr : ¬ ∃ row f p md, B[k] = .running row f p md := fun ⟨row, f, p, md, hz⟩ => by
                obtain ⟨row2, f2, p2, md2, hz2⟩ := hru
                have ok2 := (U.Bok _ hm2).1
                rw [hz2] at ok2
                have ok1 := ok
                rw [hz] at ok1
                refine hne ?_
                rw [hz, hz2]
                show row2 = row
                have q1 := ok1.2.2.1
                have q2 := ok2.2.2.1
                omega
              rw [h4 hnr]
              exact r2.2 hru
          · show r' (fr t r2) x = pr r2 x
            rw [hoth r2 hr2 (fun z => hno _ hmem z.symm) x]
            exact r.2 r2 hr2 hno x
        · have hkB : k = B.length := by omega
          subst hkB
          have e1 := code_stop (t := t) (nse := nse) (body := body) (B := B) (n := n)
          rw [← e, hcode] at e1
          have e2 := Option.some.inj e1
          subst e2
          have hC : Com t many g lanes ln base (a + 1) m := ⟨C.cg, C.cl, C.cn, C.cm, C.cb, by omega⟩
          refine ⟨S.on, fun hc => go m hmb hC (.nxt (by omega) S hc (c.2.1 hc) u r), fun c' f hc hf => ?_⟩
          obtain ⟨k1, k2, f2, k3, k4⟩ := c.2.2 c' hc
          rw [hf] at k3
          have e5 := Option.some.inj k3
          subst e5
          have hcb := C.cb
          refine ⟨C.cn, base + c', by omega, fun x hx => ?_, .inr ⟨by omega, f, k4, by rw [hmb]; push_cast; rfl⟩, fun st hst x => ?_, r.2⟩
          · by_cases d : x < base
            · exact hun x d
            · have h8 := u (x - base) (by omega)
              rw [S.fl (x - base) (by omega), show base + (x - base) = x by omega] at h8
              exact h8
          · obtain ⟨i2, hi2⟩ := List.mem_iff_getElem?.mp hst
            have r2 := (r.1 i2 st hi2).1 x
            rw [if_pos (List.getElem?_eq_some_iff.mp hi2).1, ← k1] at r2
            exact r2
      | nxt e S c w u r =>
        have e1 := code_next (t := t) (nse := nse) (body := body) (B := B) (n := n)
        rw [← e, hcode] at e1
        have e2 := Option.some.inj e1
        subst e2
        have hcb := C.cb
        have hgl : 0 < g * lanes := Nat.mul_pos (by rcases U.g3 with h | h | h <;> omega) U.l1
        have all : ∀ x, x < base + m.width → Wf.fa x = none := fun x hx => by
          by_cases d : x < base
          · exact hun x d
          · have h8 := u (x - base) (by omega)
            rw [S.fl (x - base) (by omega), show base + (x - base) = x by omega] at h8
            exact h8
        have rB : ∀ st ∈ B, ∀ i2, B[i2]? = some st → (∀ x, m.rc (fr t st.erow) x = (stt Wf st (base + m.width)).1 st.erow x) ∧ (isRun st → m.car = (stt Wf st (base + m.width)).2) := fun st hst i2 hi2 => by
          have r2 := r.1 i2 st hi2
          rw [if_pos (List.getElem?_eq_some_iff.mp hi2).1] at r2
          exact r2
        refine ⟨S.on, fun hno => ?_, fun hyes ma' h1 h2 => ?_⟩
        · rw [hmb, C.cm] at hno
          refine ⟨a + 1, 1, rfl, rfl, .inr (.inr ⟨by omega, by rw [codeOf_len]; omega, C.cn, many, Nat.le_refl _, fun x hx => all x (by omega), .inl ⟨rfl, rfl⟩, fun st hst x => ?_, r.2⟩), mu m hmb⟩
          obtain ⟨i2, hi2⟩ := List.mem_iff_getElem?.mp hst
          have r2 := (rB st hst i2 hi2).1 x
          rw [show base + m.width = many by omega] at r2
          exact r2
        · rw [hmb, C.cm] at hyes h2
          rw [hmb, C.cm]
          refine ⟨1, 1, rfl, rfl, .inr (.inl ⟨rfl, Nat.le_refl _, base + m.began, hyes, rfl, ⟨C.cg, C.cl, C.cn, rfl, by show min (many - (base + m.began)) (m.g * m.lanes) = _; rw [C.cg, C.cl], by show m.tn ≤ _; omega⟩, fun x hx => all x (by omega), ?_⟩), ?_⟩
          · refine U.start hyes C.cg C.cl C.cn (fun j hj => h2 j (by rw [C.cg, C.cl]; exact hj)) ⟨fun i2 st hi2 => ?_, r.2⟩
            rw [if_neg (Nat.not_lt_zero _), ← w]
            exact rB st (List.mem_of_getElem? hi2) i2 hi2
          · show (if 1 = 0 then 100000 else (many - (base + m.began)) * 200 + (150 - 1)) < (if a = 0 then 100000 else (many - m.base) * 200 + (150 - a))
            rw [if_neg (by decide), if_neg (by omega), hmb]
            omega
    · -- behind the end
      exfalso
      have := (List.getElem?_eq_some_iff.mp hst).1
      rw [List.length_cons] at this
      omega
  · rintro a o m (⟨rfl, rfl, rfl⟩ | ⟨rfl, ha, base, hb, hmb, C, hun, ph⟩ | ⟨ha, hlen, hF⟩) hge
    · simp at hge
    · exfalso
      rw [List.length_cons, codeOf_len] at hge
      cases ph with
      | load h S c w r => omega
      | body i2 e h S c r => omega
      | eff k e h S c u r => omega
      | nxt e S c w u r => omega
    · exact hF
end
end Rb
end

section
set_option Elab.async false
set_option linter.all false
set_option maxRecDepth 100000
set_option maxHeartbeats 4000000
namespace Rb
open PySem PySem.Spec PyProof.Rows L2

/-- equal data: a depth of lists and tuples over numbers, words and None -/
def AL : Nat → Hp → V → V → Prop
  | 0, _, _, _ => False
  | n + 1, H, x, y => (x = y ∧ (y = .non ∨ (∃ s, y = .str s) ∨ ∃ i, y = .int i)) ∨
    (∃ a b xs ys, x = .ref a ∧ y = .ref b ∧ H a = some (.lst xs) ∧ H b = some (.lst ys) ∧ xs.length = ys.length ∧ ∀ (i : Nat) u v, xs[i]? = some u → ys[i]? = some v → AL n H u v) ∨
    (∃ a b xs ys, x = .ref a ∧ y = .ref b ∧ H a = some (.tup xs) ∧ H b = some (.tup ys) ∧ xs.length = ys.length ∧ ∀ (i : Nat) u v, xs[i]? = some u → ys[i]? = some v → AL n H u v)
theorem AL.same : ∀ (n : Nat) {H H' : Hp} {x y : V}, AL n H x y → Same H H' → AL n H' x y
  | 0, _, _, _, _, h, _ => h.elim
  | n + 1, H, H', x, y, h, s => by
    rcases h with h | ⟨a, b, xs, ys, h1, h2, h3, h4, h5, h6⟩ | ⟨a, b, xs, ys, h1, h2, h3, h4, h5, h6⟩
    · exact .inl h
    · exact .inr (.inl ⟨a, b, xs, ys, h1, h2, s _ _ h3, s _ _ h4, h5, fun i u v hu hv => (h6 i u v hu hv).same n s⟩)
    · exact .inr (.inr ⟨a, b, xs, ys, h1, h2, s _ _ h3, s _ _ h4, h5, fun i u v hu hv => (h6 i u v hu hv).same n s⟩)
def sp_al (n : Nat) : Sp := fun vs H Q _ => ∃ (x y : V), vs = [x, y] ∧ AL n H x y ∧ ∀ H', Same H H' → Q (.bl true) H'
theorem sc__law_alikeF : FnScope ["_law_found", "_law_due_here", "_law_one", "_law_other"] ["_law_found", "_law_due_here"] (defScope s__law_alike) := ⟨rfl, rfl, rfl, by decide +kernel, rfl, by decide +kernel, by decide +kernel⟩
theorem ok__law_alikeF {P : Program} {w : World} {K : PySem.W.Frag} {mg : Str → Option Value} {base : Heap} (T : Txt w K mg) : FnOk P w K mg base CX0 1 (ad__law_alike K) (fdOf K (ad__law_alike K)) ["_law_found", "_law_due_here"] (sp_al 0) :=
  T.f__law_alike.ok sc__law_alikeF (fun vs H Q E h => by obtain ⟨x, y, _, hal, _⟩ := h; exact hal.elim) (fun cdv A outer s H vs Q E hr h => by obtain ⟨x, y, _, hal, _⟩ := h; exact hal.elim)
theorem cal__law_alikeF {P : Program} {w : World} {K : PySem.W.Frag} {mg : Str → Option Value} {base : Heap} (T : Txt w K mg) : Cal P w K mg base 1 "_law_alike" ["_law_found", "_law_due_here"] (sp_al 0) := ⟨_, _, ok__law_alikeF T, T.g__law_alike, T.f__law_alike.kp, T.f__law_alike.bindsN (ps := ["_law_found", "_law_due_here"]) fun _ _ _ _ _ _ us hl => match us, hl with | [_, _], _ => rfl⟩
theorem kt {K : PySem.W.Frag} {a b : String} {r : Bool} (h : kitB a b = some r) : PySem.W.kitOne K (.type a) (.type b) = some r := h
theorem dsame {x : V} {R : V → Prop} (h : R (.bl true)) : R (.bl (decide (x = x))) := by
  rw [decide_eq_true rfl]
  exact h
def sp__law_alike1 (K : PySem.W.Frag) : Sp := sp_al 1
theorem sc__law_alike1 : FnScope ["_law_found", "_law_due_here", "_law_one", "_law_other"] ["_law_found", "_law_due_here"] (defScope s__law_alike) := ⟨rfl, rfl, rfl, by decide +kernel, rfl, by decide +kernel, by decide +kernel⟩
theorem ok__law_alike1 {P : Program} {w : World} {K : PySem.W.Frag} {mg : Str → Option Value} {base : Heap} (T : Txt w K mg) : FnOk P w K mg base CX0 2 (ad__law_alike K) (fdOf K (ad__law_alike K)) ["_law_found", "_law_due_here"] (sp__law_alike1 K) := by
  have C__law_alikeF := cal__law_alikeF (P := P) (base := base) T
  refine T.f__law_alike.ok sc__law_alike1 (fun vs H Q E h => ?_) (fun cdv A outer s H vs Q E hr h => ?_)
  · obtain ⟨_, _, rfl, _⟩ := h
    rfl
  · have hu := hu_of hr
    have nd := sc__law_alike1.nd
    refine ⟨_, PSs.nox ((pss_cons (ps_if (pt_cmpR op_isN (pv 1) pe_non (nomark _))
      (pss_one (ps_ret (pe_cmpR op_isN (pv 0) pe_non (nomark _))))
      pss_nil)
      (pss_cons (ps_if (pt_val (pe_callB call_isi rfl T.b_isinstance (by decide +kernel) (pa_cons (pv 1) (pa_cons (pe_bltn (v := .ty "str") rfl T.b_str (by decide +kernel) rfl) pa_nil))))
      (pss_one (ps_ret (pe_and (pe_callB call_isi rfl T.b_isinstance (by decide +kernel) (pa_cons (pv 0) (pa_cons (pe_bltn (v := .ty "str") rfl T.b_str (by decide +kernel) rfl) pa_nil))) (pe_one (pe_cmpR op_eq (pv 0) (pv 1) (nomark _))))))
      pss_nil)
      (pss_cons (ps_if (pt_not (pt_val (pe_callB call_isiT rfl T.b_isinstance (by decide +kernel) (pa_cons (pv 1) (pa_cons (pe_tup (pa_cons (pe_bltn (v := .ty "list") rfl T.b_list (by decide +kernel) rfl) (pa_cons (pe_bltn (v := .ty "tuple") rfl T.b_tuple (by decide +kernel) rfl) pa_nil))) pa_nil)))))
      (pss_one (ps_ret (pe_and (pe_callB call_isi rfl T.b_isinstance (by decide +kernel) (pa_cons (pv 0) (pa_cons (pe_bltn (v := .ty "int") rfl T.b_int (by decide +kernel) rfl) pa_nil))) (pe_and (pe_not (pe_callB call_isi rfl T.b_isinstance (by decide +kernel) (pa_cons (pv 0) (pa_cons (pe_bltn (v := .ty "bool") rfl T.b_bool (by decide +kernel) rfl) pa_nil)))) (pe_one (pe_cmpR op_eq (pv 0) (pv 1) (nomark _)))))))
      pss_nil)
      (pss_cons (ps_if (PW.pt (pw_and (pt_val (pe_callB call_isi rfl T.b_isinstance (by decide +kernel) (pa_cons (pv 1) (pa_cons (pe_bltn (v := .ty "list") rfl T.b_list (by decide +kernel) rfl) pa_nil)))) (pw_and1 (pt_not (pt_val (pe_callB call_isi rfl T.b_isinstance (by decide +kernel) (pa_cons (pv 0) (pa_cons (pe_bltn (v := .ty "list") rfl T.b_list (by decide +kernel) rfl) pa_nil))))))))
      (pss_one (ps_ret pe_bl))
      pss_nil)
      (pss_cons (ps_if (PW.pt (pw_and (pt_val (pe_callB call_isi rfl T.b_isinstance (by decide +kernel) (pa_cons (pv 1) (pa_cons (pe_bltn (v := .ty "tuple") rfl T.b_tuple (by decide +kernel) rfl) pa_nil)))) (pw_and1 (pt_not (pt_val (pe_callB call_isi rfl T.b_isinstance (by decide +kernel) (pa_cons (pv 0) (pa_cons (pe_bltn (v := .ty "tuple") rfl T.b_tuple (by decide +kernel) rfl) pa_nil))))))))
      (pss_one (ps_ret pe_bl))
      pss_nil)
      (pss_cons (ps_if (pt_cmpR op_ne (pe_callB call_len_seq rfl T.b_len PySem.boot_len (pa_cons (pv 0) pa_nil)) (pe_callB call_len_seq rfl T.b_len PySem.boot_len (pa_cons (pv 1) pa_nil)) (nomark _))
      (pss_one (ps_ret pe_bl))
      pss_nil)
      (pss_cons (ps_for PassesOwn.never rfl (RZ.pi_zipA rfl T.b_zip (pa_cons (pv 0) (pa_cons (pv 1) pa_nil))) (pg_tup rfl (pgs_cons (pg_name (i := 2) nd rfl (Or.inl rfl)) (pgs_cons (pg_name (i := 3) nd rfl (Or.inl rfl)) pgs_nil)))
      (pss_one (ps_if (pt_not (pt_val (pe_cl C__law_alikeF (hr.mono (by decide)) (pa_cons (pv 2) (pa_cons (pv 3) pa_nil)))))
      (pss_one (ps_ret pe_bl))
      pss_nil)))
      (pss_one (ps_ret pe_bl)))))))))), ?_⟩
    obtain ⟨x, y, rfl, hal, kQ⟩ := h
    rcases hal with ⟨rfl, hs⟩ | ⟨a, b, xs, ys, rfl, rfl, ha, hb, hl, hch⟩ | ⟨a, b, xs, ys, rfl, rfl, ha, hb, hl, hch⟩
    · rcases hs with rfl | ⟨s, rfl⟩ | ⟨i, rfl⟩
      · refine ⟨_, rfl, rfl, _, rfl, iteDT rfl ?_⟩
        exact ⟨_, rfl, rfl, dsame (R := fun v => Q v H) (kQ H (Same.refl _))⟩
      · refine ⟨_, rfl, rfl, _, rfl, iteDF (fun z => by cases z) ?_⟩
        refine ⟨_, rfl, _, _, _, _, _, rfl, .ty _, .base (.str s), kt (b := "str") (show kitB "str" "str" = some true by decide +kernel), _, rfl, ?_⟩
        refine ⟨_, rfl, _, _, _, _, _, rfl, .ty _, .base (.str s), kt (b := "str") (show kitB "str" "str" = some true by decide +kernel), _, rfl, ?_⟩
        exact ⟨_, rfl, _, rfl, rfl, dsame (R := fun v => Q v H) (kQ H (Same.refl _))⟩
      · refine ⟨_, rfl, rfl, _, rfl, iteDF (fun z => by cases z) ?_⟩
        refine ⟨_, rfl, _, _, _, _, _, rfl, .ty _, .base (.int i), kt (b := "str") (show kitB "int" "str" = some false by decide +kernel), _, rfl, ?_⟩
        refine ⟨_, rfl, two_sz, fun tp htp => ?_⟩
        have s1 := same_new (o := .tup [.ty "list", .ty "tuple"]) htp
        refine ⟨_, tp, _, _, _, _, rfl, upd_same, .cons (.ty _) (.cons (.ty _) .nil), .base (.int i), kitAny_cons (b := false) (r := false) (kt (show kitB "int" "list" = some false by decide +kernel)) (fun _ => kitAny_cons (b := false) (r := false) (kt (show kitB "int" "tuple" = some false by decide +kernel)) (fun _ => rfl) (fun z => by cases z)) (fun z => by cases z), _, rfl, ?_⟩
        refine ⟨_, rfl, _, _, _, _, _, rfl, .ty _, .base (.int i), kt (b := "int") (show kitB "int" "int" = some true by decide +kernel), _, rfl, ?_⟩
        refine ⟨_, rfl, _, _, _, _, _, rfl, .ty _, .base (.int i), kt (b := "bool") (show kitB "int" "bool" = some false by decide +kernel), _, rfl, _, rfl, ?_⟩
        exact ⟨_, rfl, _, rfl, rfl, dsame (R := fun v => Q v _) (kQ _ s1)⟩
    · refine ⟨_, rfl, rfl, _, rfl, iteDF (fun z => by cases z) ?_⟩
      refine ⟨_, rfl, _, _, _, _, _, rfl, .ty _, .base (.lst hb), kt (b := "str") (show kitB "list" "str" = some false by decide +kernel), _, rfl, ?_⟩
      refine ⟨_, rfl, two_sz, fun tp htp => ?_⟩
      have s1 := same_new (o := .tup [.ty "list", .ty "tuple"]) htp
      refine ⟨_, tp, _, _, _, _, rfl, upd_same, .cons (.ty _) (.cons (.ty _) .nil), .base (.lst (s1 _ _ hb)), kitAny_cons (b := true) (r := true) (kt (show kitB "list" "list" = some true by decide +kernel)) (fun z => by cases z) (fun _ => rfl), _, rfl, ?_⟩
      have ha1 := s1 _ _ ha
      have hb1 := s1 _ _ hb
      have hch1 : ∀ (i : Nat) u v, xs[i]? = some u → ys[i]? = some v → AL 0 _ u v := fun i u v hu hv => (hch i u v hu hv).same 0 s1
      generalize upd H tp (.tup [.ty "list", .ty "tuple"]) = H1 at s1 ha1 hb1 hch1 ⊢
      refine ⟨_, rfl, _, _, _, _, _, rfl, .ty _, .base (.lst hb1), kt (b := "list") (show kitB "list" "list" = some true by decide +kernel), _, rfl, ?_⟩
      refine ⟨_, rfl, _, _, _, _, _, rfl, .ty _, .base (.lst ha1), kt (b := "list") (show kitB "list" "list" = some true by decide +kernel), _, rfl, ?_⟩
      refine ⟨_, rfl, _, _, _, _, _, rfl, .ty _, .base (.lst hb1), kt (b := "tuple") (show kitB "list" "tuple" = some false by decide +kernel), _, rfl, ?_⟩
      refine ⟨_, rfl, a, _, rfl, .inl (SqL.of ha1), _, rfl, b, _, rfl, .inl (SqL.of hb1), rfl, _, rfl, ?_⟩
      rw [hl, decide_eq_true rfl]
      refine ⟨_, rfl, _, rfl, a, b, xs, ys, rfl, .inl ⟨SqL.of ha1, SqL.of hb1, ?_⟩⟩
      refine RZ.for_zipL (K := K) (xs := xs) (ys := ys) hl (fun i σ H' => ∃ (v2 v3 : Option V), σ = [some (.ref a), some (.ref b), v2, v3] ∧ Same H1 H') ⟨none, none, rfl, Same.refl _⟩ (fun i σ H' ⟨_, _, _, s⟩ => ⟨SqL.of (s _ _ ha1), SqL.of (s _ _ hb1)⟩) ?_ ?_
      · rintro i u v tt σ H2 hu hv ⟨v2, v3, rfl, s2⟩ htt
        have s3 : Same H1 (upd H2 tt (.tup [u, v])) := s2.trans (same_new htt)
        refine ⟨tt, _, rfl, SqT.of upd_same, rfl, _, _, rfl, _, _, rfl, rfl, ?_⟩
        refine ⟨_, rfl, _, rfl, u, v, rfl, (hch1 i u v hu hv).same 0 s3, fun H3 s4 => ⟨_, rfl, ?_⟩⟩
        exact ⟨_, _, rfl, s3.trans s4⟩
      · rintro σ H2 ⟨v2, v3, rfl, s2⟩
        exact kQ H2 (s1.trans s2)
    · refine ⟨_, rfl, rfl, _, rfl, iteDF (fun z => by cases z) ?_⟩
      refine ⟨_, rfl, _, _, _, _, _, rfl, .ty _, .base (.tup hb), kt (b := "str") (show kitB "tuple" "str" = some false by decide +kernel), _, rfl, ?_⟩
      refine ⟨_, rfl, two_sz, fun tp htp => ?_⟩
      have s1 := same_new (o := .tup [.ty "list", .ty "tuple"]) htp
      refine ⟨_, tp, _, _, _, _, rfl, upd_same, .cons (.ty _) (.cons (.ty _) .nil), .base (.tup (s1 _ _ hb)), kitAny_cons (b := false) (r := true) (kt (show kitB "tuple" "list" = some false by decide +kernel)) (fun _ => kitAny_cons (b := true) (r := true) (kt (show kitB "tuple" "tuple" = some true by decide +kernel)) (fun z => by cases z) (fun _ => rfl)) (fun z => by cases z), _, rfl, ?_⟩
      have ha1 := s1 _ _ ha
      have hb1 := s1 _ _ hb
      have hch1 : ∀ (i : Nat) u v, xs[i]? = some u → ys[i]? = some v → AL 0 _ u v := fun i u v hu hv => (hch i u v hu hv).same 0 s1
      generalize upd H tp (.tup [.ty "list", .ty "tuple"]) = H1 at s1 ha1 hb1 hch1 ⊢
      refine ⟨_, rfl, _, _, _, _, _, rfl, .ty _, .base (.tup hb1), kt (b := "list") (show kitB "tuple" "list" = some false by decide +kernel), _, rfl, ?_⟩
      refine ⟨_, rfl, _, _, _, _, _, rfl, .ty _, .base (.tup hb1), kt (b := "tuple") (show kitB "tuple" "tuple" = some true by decide +kernel), _, rfl, ?_⟩
      refine ⟨_, rfl, _, _, _, _, _, rfl, .ty _, .base (.tup ha1), kt (b := "tuple") (show kitB "tuple" "tuple" = some true by decide +kernel), _, rfl, ?_⟩
      refine ⟨_, rfl, a, _, rfl, .inr (SqT.of ha1), _, rfl, b, _, rfl, .inr (SqT.of hb1), rfl, _, rfl, ?_⟩
      rw [hl, decide_eq_true rfl]
      refine ⟨_, rfl, _, rfl, a, b, xs, ys, rfl, .inr ⟨SqT.of ha1, SqT.of hb1, ?_⟩⟩
      refine RZ.for_zipT (K := K) (xs := xs) (ys := ys) hl (fun i σ H' => ∃ (v2 v3 : Option V), σ = [some (.ref a), some (.ref b), v2, v3] ∧ Same H1 H') ⟨none, none, rfl, Same.refl _⟩ (fun i σ H' ⟨_, _, _, s⟩ => ⟨SqT.of (s _ _ ha1), SqT.of (s _ _ hb1)⟩) ?_ ?_
      · rintro i u v tt σ H2 hu hv ⟨v2, v3, rfl, s2⟩ htt
        have s3 : Same H1 (upd H2 tt (.tup [u, v])) := s2.trans (same_new htt)
        refine ⟨tt, _, rfl, SqT.of upd_same, rfl, _, _, rfl, _, _, rfl, rfl, ?_⟩
        refine ⟨_, rfl, _, rfl, u, v, rfl, (hch1 i u v hu hv).same 0 s3, fun H3 s4 => ⟨_, rfl, ?_⟩⟩
        exact ⟨_, _, rfl, s3.trans s4⟩
      · rintro σ H2 ⟨v2, v3, rfl, s2⟩
        exact kQ H2 (s1.trans s2)
theorem cal__law_alike1 {P : Program} {w : World} {K : PySem.W.Frag} {mg : Str → Option Value} {base : Heap} (T : Txt w K mg) : Cal P w K mg base 2 "_law_alike" ["_law_found", "_law_due_here"] (sp__law_alike1 K) := ⟨_, _, ok__law_alike1 T, T.g__law_alike, T.f__law_alike.kp, T.f__law_alike.bindsN (ps := ["_law_found", "_law_due_here"]) fun _ _ _ _ _ _ us hl => match us, hl with | [_, _], _ => rfl⟩
def sp__law_alike2 (K : PySem.W.Frag) : Sp := sp_al 2
theorem sc__law_alike2 : FnScope ["_law_found", "_law_due_here", "_law_one", "_law_other"] ["_law_found", "_law_due_here"] (defScope s__law_alike) := ⟨rfl, rfl, rfl, by decide +kernel, rfl, by decide +kernel, by decide +kernel⟩
theorem ok__law_alike2 {P : Program} {w : World} {K : PySem.W.Frag} {mg : Str → Option Value} {base : Heap} (T : Txt w K mg) : FnOk P w K mg base CX0 3 (ad__law_alike K) (fdOf K (ad__law_alike K)) ["_law_found", "_law_due_here"] (sp__law_alike2 K) := by
  have C__law_alike1 := cal__law_alike1 (P := P) (base := base) T
  refine T.f__law_alike.ok sc__law_alike2 (fun vs H Q E h => ?_) (fun cdv A outer s H vs Q E hr h => ?_)
  · obtain ⟨_, _, rfl, _⟩ := h
    rfl
  · have hu := hu_of hr
    have nd := sc__law_alike2.nd
    refine ⟨_, PSs.nox ((pss_cons (ps_if (pt_cmpR op_isN (pv 1) pe_non (nomark _))
      (pss_one (ps_ret (pe_cmpR op_isN (pv 0) pe_non (nomark _))))
      pss_nil)
      (pss_cons (ps_if (pt_val (pe_callB call_isi rfl T.b_isinstance (by decide +kernel) (pa_cons (pv 1) (pa_cons (pe_bltn (v := .ty "str") rfl T.b_str (by decide +kernel) rfl) pa_nil))))
      (pss_one (ps_ret (pe_and (pe_callB call_isi rfl T.b_isinstance (by decide +kernel) (pa_cons (pv 0) (pa_cons (pe_bltn (v := .ty "str") rfl T.b_str (by decide +kernel) rfl) pa_nil))) (pe_one (pe_cmpR op_eq (pv 0) (pv 1) (nomark _))))))
      pss_nil)
      (pss_cons (ps_if (pt_not (pt_val (pe_callB call_isiT rfl T.b_isinstance (by decide +kernel) (pa_cons (pv 1) (pa_cons (pe_tup (pa_cons (pe_bltn (v := .ty "list") rfl T.b_list (by decide +kernel) rfl) (pa_cons (pe_bltn (v := .ty "tuple") rfl T.b_tuple (by decide +kernel) rfl) pa_nil))) pa_nil)))))
      (pss_one (ps_ret (pe_and (pe_callB call_isi rfl T.b_isinstance (by decide +kernel) (pa_cons (pv 0) (pa_cons (pe_bltn (v := .ty "int") rfl T.b_int (by decide +kernel) rfl) pa_nil))) (pe_and (pe_not (pe_callB call_isi rfl T.b_isinstance (by decide +kernel) (pa_cons (pv 0) (pa_cons (pe_bltn (v := .ty "bool") rfl T.b_bool (by decide +kernel) rfl) pa_nil)))) (pe_one (pe_cmpR op_eq (pv 0) (pv 1) (nomark _)))))))
      pss_nil)
      (pss_cons (ps_if (PW.pt (pw_and (pt_val (pe_callB call_isi rfl T.b_isinstance (by decide +kernel) (pa_cons (pv 1) (pa_cons (pe_bltn (v := .ty "list") rfl T.b_list (by decide +kernel) rfl) pa_nil)))) (pw_and1 (pt_not (pt_val (pe_callB call_isi rfl T.b_isinstance (by decide +kernel) (pa_cons (pv 0) (pa_cons (pe_bltn (v := .ty "list") rfl T.b_list (by decide +kernel) rfl) pa_nil))))))))
      (pss_one (ps_ret pe_bl))
      pss_nil)
      (pss_cons (ps_if (PW.pt (pw_and (pt_val (pe_callB call_isi rfl T.b_isinstance (by decide +kernel) (pa_cons (pv 1) (pa_cons (pe_bltn (v := .ty "tuple") rfl T.b_tuple (by decide +kernel) rfl) pa_nil)))) (pw_and1 (pt_not (pt_val (pe_callB call_isi rfl T.b_isinstance (by decide +kernel) (pa_cons (pv 0) (pa_cons (pe_bltn (v := .ty "tuple") rfl T.b_tuple (by decide +kernel) rfl) pa_nil))))))))
      (pss_one (ps_ret pe_bl))
      pss_nil)
      (pss_cons (ps_if (pt_cmpR op_ne (pe_callB call_len_seq rfl T.b_len PySem.boot_len (pa_cons (pv 0) pa_nil)) (pe_callB call_len_seq rfl T.b_len PySem.boot_len (pa_cons (pv 1) pa_nil)) (nomark _))
      (pss_one (ps_ret pe_bl))
      pss_nil)
      (pss_cons (ps_for PassesOwn.never rfl (RZ.pi_zipA rfl T.b_zip (pa_cons (pv 0) (pa_cons (pv 1) pa_nil))) (pg_tup rfl (pgs_cons (pg_name (i := 2) nd rfl (Or.inl rfl)) (pgs_cons (pg_name (i := 3) nd rfl (Or.inl rfl)) pgs_nil)))
      (pss_one (ps_if (pt_not (pt_val (pe_cl C__law_alike1 (hr.mono (by decide)) (pa_cons (pv 2) (pa_cons (pv 3) pa_nil)))))
      (pss_one (ps_ret pe_bl))
      pss_nil)))
      (pss_one (ps_ret pe_bl)))))))))), ?_⟩
    obtain ⟨x, y, rfl, hal, kQ⟩ := h
    rcases hal with ⟨rfl, hs⟩ | ⟨a, b, xs, ys, rfl, rfl, ha, hb, hl, hch⟩ | ⟨a, b, xs, ys, rfl, rfl, ha, hb, hl, hch⟩
    · rcases hs with rfl | ⟨s, rfl⟩ | ⟨i, rfl⟩
      · refine ⟨_, rfl, rfl, _, rfl, iteDT rfl ?_⟩
        exact ⟨_, rfl, rfl, dsame (R := fun v => Q v H) (kQ H (Same.refl _))⟩
      · refine ⟨_, rfl, rfl, _, rfl, iteDF (fun z => by cases z) ?_⟩
        refine ⟨_, rfl, _, _, _, _, _, rfl, .ty _, .base (.str s), kt (b := "str") (show kitB "str" "str" = some true by decide +kernel), _, rfl, ?_⟩
        refine ⟨_, rfl, _, _, _, _, _, rfl, .ty _, .base (.str s), kt (b := "str") (show kitB "str" "str" = some true by decide +kernel), _, rfl, ?_⟩
        exact ⟨_, rfl, _, rfl, rfl, dsame (R := fun v => Q v H) (kQ H (Same.refl _))⟩
      · refine ⟨_, rfl, rfl, _, rfl, iteDF (fun z => by cases z) ?_⟩
        refine ⟨_, rfl, _, _, _, _, _, rfl, .ty _, .base (.int i), kt (b := "str") (show kitB "int" "str" = some false by decide +kernel), _, rfl, ?_⟩
        refine ⟨_, rfl, two_sz, fun tp htp => ?_⟩
        have s1 := same_new (o := .tup [.ty "list", .ty "tuple"]) htp
        refine ⟨_, tp, _, _, _, _, rfl, upd_same, .cons (.ty _) (.cons (.ty _) .nil), .base (.int i), kitAny_cons (b := false) (r := false) (kt (show kitB "int" "list" = some false by decide +kernel)) (fun _ => kitAny_cons (b := false) (r := false) (kt (show kitB "int" "tuple" = some false by decide +kernel)) (fun _ => rfl) (fun z => by cases z)) (fun z => by cases z), _, rfl, ?_⟩
        refine ⟨_, rfl, _, _, _, _, _, rfl, .ty _, .base (.int i), kt (b := "int") (show kitB "int" "int" = some true by decide +kernel), _, rfl, ?_⟩
        refine ⟨_, rfl, _, _, _, _, _, rfl, .ty _, .base (.int i), kt (b := "bool") (show kitB "int" "bool" = some false by decide +kernel), _, rfl, _, rfl, ?_⟩
        exact ⟨_, rfl, _, rfl, rfl, dsame (R := fun v => Q v _) (kQ _ s1)⟩
    · refine ⟨_, rfl, rfl, _, rfl, iteDF (fun z => by cases z) ?_⟩
      refine ⟨_, rfl, _, _, _, _, _, rfl, .ty _, .base (.lst hb), kt (b := "str") (show kitB "list" "str" = some false by decide +kernel), _, rfl, ?_⟩
      refine ⟨_, rfl, two_sz, fun tp htp => ?_⟩
      have s1 := same_new (o := .tup [.ty "list", .ty "tuple"]) htp
      refine ⟨_, tp, _, _, _, _, rfl, upd_same, .cons (.ty _) (.cons (.ty _) .nil), .base (.lst (s1 _ _ hb)), kitAny_cons (b := true) (r := true) (kt (show kitB "list" "list" = some true by decide +kernel)) (fun z => by cases z) (fun _ => rfl), _, rfl, ?_⟩
      have ha1 := s1 _ _ ha
      have hb1 := s1 _ _ hb
      have hch1 : ∀ (i : Nat) u v, xs[i]? = some u → ys[i]? = some v → AL 1 _ u v := fun i u v hu hv => (hch i u v hu hv).same 1 s1
      generalize upd H tp (.tup [.ty "list", .ty "tuple"]) = H1 at s1 ha1 hb1 hch1 ⊢
      refine ⟨_, rfl, _, _, _, _, _, rfl, .ty _, .base (.lst hb1), kt (b := "list") (show kitB "list" "list" = some true by decide +kernel), _, rfl, ?_⟩
      refine ⟨_, rfl, _, _, _, _, _, rfl, .ty _, .base (.lst ha1), kt (b := "list") (show kitB "list" "list" = some true by decide +kernel), _, rfl, ?_⟩
      refine ⟨_, rfl, _, _, _, _, _, rfl, .ty _, .base (.lst hb1), kt (b := "tuple") (show kitB "list" "tuple" = some false by decide +kernel), _, rfl, ?_⟩
      refine ⟨_, rfl, a, _, rfl, .inl (SqL.of ha1), _, rfl, b, _, rfl, .inl (SqL.of hb1), rfl, _, rfl, ?_⟩
      rw [hl, decide_eq_true rfl]
      refine ⟨_, rfl, _, rfl, a, b, xs, ys, rfl, .inl ⟨SqL.of ha1, SqL.of hb1, ?_⟩⟩
      refine RZ.for_zipL (K := K) (xs := xs) (ys := ys) hl (fun i σ H' => ∃ (v2 v3 : Option V), σ = [some (.ref a), some (.ref b), v2, v3] ∧ Same H1 H') ⟨none, none, rfl, Same.refl _⟩ (fun i σ H' ⟨_, _, _, s⟩ => ⟨SqL.of (s _ _ ha1), SqL.of (s _ _ hb1)⟩) ?_ ?_
      · rintro i u v tt σ H2 hu hv ⟨v2, v3, rfl, s2⟩ htt
        have s3 : Same H1 (upd H2 tt (.tup [u, v])) := s2.trans (same_new htt)
        refine ⟨tt, _, rfl, SqT.of upd_same, rfl, _, _, rfl, _, _, rfl, rfl, ?_⟩
        refine ⟨_, rfl, _, rfl, u, v, rfl, (hch1 i u v hu hv).same 1 s3, fun H3 s4 => ⟨_, rfl, ?_⟩⟩
        exact ⟨_, _, rfl, s3.trans s4⟩
      · rintro σ H2 ⟨v2, v3, rfl, s2⟩
        exact kQ H2 (s1.trans s2)
    · refine ⟨_, rfl, rfl, _, rfl, iteDF (fun z => by cases z) ?_⟩
      refine ⟨_, rfl, _, _, _, _, _, rfl, .ty _, .base (.tup hb), kt (b := "str") (show kitB "tuple" "str" = some false by decide +kernel), _, rfl, ?_⟩
      refine ⟨_, rfl, two_sz, fun tp htp => ?_⟩
      have s1 := same_new (o := .tup [.ty "list", .ty "tuple"]) htp
      refine ⟨_, tp, _, _, _, _, rfl, upd_same, .cons (.ty _) (.cons (.ty _) .nil), .base (.tup (s1 _ _ hb)), kitAny_cons (b := false) (r := true) (kt (show kitB "tuple" "list" = some false by decide +kernel)) (fun _ => kitAny_cons (b := true) (r := true) (kt (show kitB "tuple" "tuple" = some true by decide +kernel)) (fun z => by cases z) (fun _ => rfl)) (fun z => by cases z), _, rfl, ?_⟩
      have ha1 := s1 _ _ ha
      have hb1 := s1 _ _ hb
      have hch1 : ∀ (i : Nat) u v, xs[i]? = some u → ys[i]? = some v → AL 1 _ u v := fun i u v hu hv => (hch i u v hu hv).same 1 s1
      generalize upd H tp (.tup [.ty "list", .ty "tuple"]) = H1 at s1 ha1 hb1 hch1 ⊢
      refine ⟨_, rfl, _, _, _, _, _, rfl, .ty _, .base (.tup hb1), kt (b := "list") (show kitB "tuple" "list" = some false by decide +kernel), _, rfl, ?_⟩
      refine ⟨_, rfl, _, _, _, _, _, rfl, .ty _, .base (.tup hb1), kt (b := "tuple") (show kitB "tuple" "tuple" = some true by decide +kernel), _, rfl, ?_⟩
      refine ⟨_, rfl, _, _, _, _, _, rfl, .ty _, .base (.tup ha1), kt (b := "tuple") (show kitB "tuple" "tuple" = some true by decide +kernel), _, rfl, ?_⟩
      refine ⟨_, rfl, a, _, rfl, .inr (SqT.of ha1), _, rfl, b, _, rfl, .inr (SqT.of hb1), rfl, _, rfl, ?_⟩
      rw [hl, decide_eq_true rfl]
      refine ⟨_, rfl, _, rfl, a, b, xs, ys, rfl, .inr ⟨SqT.of ha1, SqT.of hb1, ?_⟩⟩
      refine RZ.for_zipT (K := K) (xs := xs) (ys := ys) hl (fun i σ H' => ∃ (v2 v3 : Option V), σ = [some (.ref a), some (.ref b), v2, v3] ∧ Same H1 H') ⟨none, none, rfl, Same.refl _⟩ (fun i σ H' ⟨_, _, _, s⟩ => ⟨SqT.of (s _ _ ha1), SqT.of (s _ _ hb1)⟩) ?_ ?_
      · rintro i u v tt σ H2 hu hv ⟨v2, v3, rfl, s2⟩ htt
        have s3 : Same H1 (upd H2 tt (.tup [u, v])) := s2.trans (same_new htt)
        refine ⟨tt, _, rfl, SqT.of upd_same, rfl, _, _, rfl, _, _, rfl, rfl, ?_⟩
        refine ⟨_, rfl, _, rfl, u, v, rfl, (hch1 i u v hu hv).same 1 s3, fun H3 s4 => ⟨_, rfl, ?_⟩⟩
        exact ⟨_, _, rfl, s3.trans s4⟩
      · rintro σ H2 ⟨v2, v3, rfl, s2⟩
        exact kQ H2 (s1.trans s2)
theorem cal__law_alike2 {P : Program} {w : World} {K : PySem.W.Frag} {mg : Str → Option Value} {base : Heap} (T : Txt w K mg) : Cal P w K mg base 3 "_law_alike" ["_law_found", "_law_due_here"] (sp__law_alike2 K) := ⟨_, _, ok__law_alike2 T, T.g__law_alike, T.f__law_alike.kp, T.f__law_alike.bindsN (ps := ["_law_found", "_law_due_here"]) fun _ _ _ _ _ _ us hl => match us, hl with | [_, _], _ => rfl⟩
def sp__law_alike3 (K : PySem.W.Frag) : Sp := sp_al 3
theorem sc__law_alike3 : FnScope ["_law_found", "_law_due_here", "_law_one", "_law_other"] ["_law_found", "_law_due_here"] (defScope s__law_alike) := ⟨rfl, rfl, rfl, by decide +kernel, rfl, by decide +kernel, by decide +kernel⟩
theorem ok__law_alike3 {P : Program} {w : World} {K : PySem.W.Frag} {mg : Str → Option Value} {base : Heap} (T : Txt w K mg) : FnOk P w K mg base CX0 4 (ad__law_alike K) (fdOf K (ad__law_alike K)) ["_law_found", "_law_due_here"] (sp__law_alike3 K) := by
  have C__law_alike2 := cal__law_alike2 (P := P) (base := base) T
  refine T.f__law_alike.ok sc__law_alike3 (fun vs H Q E h => ?_) (fun cdv A outer s H vs Q E hr h => ?_)
  · obtain ⟨_, _, rfl, _⟩ := h
    rfl
  · have hu := hu_of hr
    have nd := sc__law_alike3.nd
    refine ⟨_, PSs.nox ((pss_cons (ps_if (pt_cmpR op_isN (pv 1) pe_non (nomark _))
      (pss_one (ps_ret (pe_cmpR op_isN (pv 0) pe_non (nomark _))))
      pss_nil)
      (pss_cons (ps_if (pt_val (pe_callB call_isi rfl T.b_isinstance (by decide +kernel) (pa_cons (pv 1) (pa_cons (pe_bltn (v := .ty "str") rfl T.b_str (by decide +kernel) rfl) pa_nil))))
      (pss_one (ps_ret (pe_and (pe_callB call_isi rfl T.b_isinstance (by decide +kernel) (pa_cons (pv 0) (pa_cons (pe_bltn (v := .ty "str") rfl T.b_str (by decide +kernel) rfl) pa_nil))) (pe_one (pe_cmpR op_eq (pv 0) (pv 1) (nomark _))))))
      pss_nil)
      (pss_cons (ps_if (pt_not (pt_val (pe_callB call_isiT rfl T.b_isinstance (by decide +kernel) (pa_cons (pv 1) (pa_cons (pe_tup (pa_cons (pe_bltn (v := .ty "list") rfl T.b_list (by decide +kernel) rfl) (pa_cons (pe_bltn (v := .ty "tuple") rfl T.b_tuple (by decide +kernel) rfl) pa_nil))) pa_nil)))))
      (pss_one (ps_ret (pe_and (pe_callB call_isi rfl T.b_isinstance (by decide +kernel) (pa_cons (pv 0) (pa_cons (pe_bltn (v := .ty "int") rfl T.b_int (by decide +kernel) rfl) pa_nil))) (pe_and (pe_not (pe_callB call_isi rfl T.b_isinstance (by decide +kernel) (pa_cons (pv 0) (pa_cons (pe_bltn (v := .ty "bool") rfl T.b_bool (by decide +kernel) rfl) pa_nil)))) (pe_one (pe_cmpR op_eq (pv 0) (pv 1) (nomark _)))))))
      pss_nil)
      (pss_cons (ps_if (PW.pt (pw_and (pt_val (pe_callB call_isi rfl T.b_isinstance (by decide +kernel) (pa_cons (pv 1) (pa_cons (pe_bltn (v := .ty "list") rfl T.b_list (by decide +kernel) rfl) pa_nil)))) (pw_and1 (pt_not (pt_val (pe_callB call_isi rfl T.b_isinstance (by decide +kernel) (pa_cons (pv 0) (pa_cons (pe_bltn (v := .ty "list") rfl T.b_list (by decide +kernel) rfl) pa_nil))))))))
      (pss_one (ps_ret pe_bl))
      pss_nil)
      (pss_cons (ps_if (PW.pt (pw_and (pt_val (pe_callB call_isi rfl T.b_isinstance (by decide +kernel) (pa_cons (pv 1) (pa_cons (pe_bltn (v := .ty "tuple") rfl T.b_tuple (by decide +kernel) rfl) pa_nil)))) (pw_and1 (pt_not (pt_val (pe_callB call_isi rfl T.b_isinstance (by decide +kernel) (pa_cons (pv 0) (pa_cons (pe_bltn (v := .ty "tuple") rfl T.b_tuple (by decide +kernel) rfl) pa_nil))))))))
      (pss_one (ps_ret pe_bl))
      pss_nil)
      (pss_cons (ps_if (pt_cmpR op_ne (pe_callB call_len_seq rfl T.b_len PySem.boot_len (pa_cons (pv 0) pa_nil)) (pe_callB call_len_seq rfl T.b_len PySem.boot_len (pa_cons (pv 1) pa_nil)) (nomark _))
      (pss_one (ps_ret pe_bl))
      pss_nil)
      (pss_cons (ps_for PassesOwn.never rfl (RZ.pi_zipA rfl T.b_zip (pa_cons (pv 0) (pa_cons (pv 1) pa_nil))) (pg_tup rfl (pgs_cons (pg_name (i := 2) nd rfl (Or.inl rfl)) (pgs_cons (pg_name (i := 3) nd rfl (Or.inl rfl)) pgs_nil)))
      (pss_one (ps_if (pt_not (pt_val (pe_cl C__law_alike2 (hr.mono (by decide)) (pa_cons (pv 2) (pa_cons (pv 3) pa_nil)))))
      (pss_one (ps_ret pe_bl))
      pss_nil)))
      (pss_one (ps_ret pe_bl)))))))))), ?_⟩
    obtain ⟨x, y, rfl, hal, kQ⟩ := h
    rcases hal with ⟨rfl, hs⟩ | ⟨a, b, xs, ys, rfl, rfl, ha, hb, hl, hch⟩ | ⟨a, b, xs, ys, rfl, rfl, ha, hb, hl, hch⟩
    · rcases hs with rfl | ⟨s, rfl⟩ | ⟨i, rfl⟩
      · refine ⟨_, rfl, rfl, _, rfl, iteDT rfl ?_⟩
        exact ⟨_, rfl, rfl, dsame (R := fun v => Q v H) (kQ H (Same.refl _))⟩
      · refine ⟨_, rfl, rfl, _, rfl, iteDF (fun z => by cases z) ?_⟩
        refine ⟨_, rfl, _, _, _, _, _, rfl, .ty _, .base (.str s), kt (b := "str") (show kitB "str" "str" = some true by decide +kernel), _, rfl, ?_⟩
        refine ⟨_, rfl, _, _, _, _, _, rfl, .ty _, .base (.str s), kt (b := "str") (show kitB "str" "str" = some true by decide +kernel), _, rfl, ?_⟩
        exact ⟨_, rfl, _, rfl, rfl, dsame (R := fun v => Q v H) (kQ H (Same.refl _))⟩
      · refine ⟨_, rfl, rfl, _, rfl, iteDF (fun z => by cases z) ?_⟩
        refine ⟨_, rfl, _, _, _, _, _, rfl, .ty _, .base (.int i), kt (b := "str") (show kitB "int" "str" = some false by decide +kernel), _, rfl, ?_⟩
        refine ⟨_, rfl, two_sz, fun tp htp => ?_⟩
        have s1 := same_new (o := .tup [.ty "list", .ty "tuple"]) htp
        refine ⟨_, tp, _, _, _, _, rfl, upd_same, .cons (.ty _) (.cons (.ty _) .nil), .base (.int i), kitAny_cons (b := false) (r := false) (kt (show kitB "int" "list" = some false by decide +kernel)) (fun _ => kitAny_cons (b := false) (r := false) (kt (show kitB "int" "tuple" = some false by decide +kernel)) (fun _ => rfl) (fun z => by cases z)) (fun z => by cases z), _, rfl, ?_⟩
        refine ⟨_, rfl, _, _, _, _, _, rfl, .ty _, .base (.int i), kt (b := "int") (show kitB "int" "int" = some true by decide +kernel), _, rfl, ?_⟩
        refine ⟨_, rfl, _, _, _, _, _, rfl, .ty _, .base (.int i), kt (b := "bool") (show kitB "int" "bool" = some false by decide +kernel), _, rfl, _, rfl, ?_⟩
        exact ⟨_, rfl, _, rfl, rfl, dsame (R := fun v => Q v _) (kQ _ s1)⟩
    · refine ⟨_, rfl, rfl, _, rfl, iteDF (fun z => by cases z) ?_⟩
      refine ⟨_, rfl, _, _, _, _, _, rfl, .ty _, .base (.lst hb), kt (b := "str") (show kitB "list" "str" = some false by decide +kernel), _, rfl, ?_⟩
      refine ⟨_, rfl, two_sz, fun tp htp => ?_⟩
      have s1 := same_new (o := .tup [.ty "list", .ty "tuple"]) htp
      refine ⟨_, tp, _, _, _, _, rfl, upd_same, .cons (.ty _) (.cons (.ty _) .nil), .base (.lst (s1 _ _ hb)), kitAny_cons (b := true) (r := true) (kt (show kitB "list" "list" = some true by decide +kernel)) (fun z => by cases z) (fun _ => rfl), _, rfl, ?_⟩
      have ha1 := s1 _ _ ha
      have hb1 := s1 _ _ hb
      have hch1 : ∀ (i : Nat) u v, xs[i]? = some u → ys[i]? = some v → AL 2 _ u v := fun i u v hu hv => (hch i u v hu hv).same 2 s1
      generalize upd H tp (.tup [.ty "list", .ty "tuple"]) = H1 at s1 ha1 hb1 hch1 ⊢
      refine ⟨_, rfl, _, _, _, _, _, rfl, .ty _, .base (.lst hb1), kt (b := "list") (show kitB "list" "list" = some true by decide +kernel), _, rfl, ?_⟩
      refine ⟨_, rfl, _, _, _, _, _, rfl, .ty _, .base (.lst ha1), kt (b := "list") (show kitB "list" "list" = some true by decide +kernel), _, rfl, ?_⟩
      refine ⟨_, rfl, _, _, _, _, _, rfl, .ty _, .base (.lst hb1), kt (b := "tuple") (show kitB "list" "tuple" = some false by decide +kernel), _, rfl, ?_⟩
      refine ⟨_, rfl, a, _, rfl, .inl (SqL.of ha1), _, rfl, b, _, rfl, .inl (SqL.of hb1), rfl, _, rfl, ?_⟩
      rw [hl, decide_eq_true rfl]
      refine ⟨_, rfl, _, rfl, a, b, xs, ys, rfl, .inl ⟨SqL.of ha1, SqL.of hb1, ?_⟩⟩
      refine RZ.for_zipL (K := K) (xs := xs) (ys := ys) hl (fun i σ H' => ∃ (v2 v3 : Option V), σ = [some (.ref a), some (.ref b), v2, v3] ∧ Same H1 H') ⟨none, none, rfl, Same.refl _⟩ (fun i σ H' ⟨_, _, _, s⟩ => ⟨SqL.of (s _ _ ha1), SqL.of (s _ _ hb1)⟩) ?_ ?_
      · rintro i u v tt σ H2 hu hv ⟨v2, v3, rfl, s2⟩ htt
        have s3 : Same H1 (upd H2 tt (.tup [u, v])) := s2.trans (same_new htt)
        refine ⟨tt, _, rfl, SqT.of upd_same, rfl, _, _, rfl, _, _, rfl, rfl, ?_⟩
        refine ⟨_, rfl, _, rfl, u, v, rfl, (hch1 i u v hu hv).same 2 s3, fun H3 s4 => ⟨_, rfl, ?_⟩⟩
        exact ⟨_, _, rfl, s3.trans s4⟩
      · rintro σ H2 ⟨v2, v3, rfl, s2⟩
        exact kQ H2 (s1.trans s2)
    · refine ⟨_, rfl, rfl, _, rfl, iteDF (fun z => by cases z) ?_⟩
      refine ⟨_, rfl, _, _, _, _, _, rfl, .ty _, .base (.tup hb), kt (b := "str") (show kitB "tuple" "str" = some false by decide +kernel), _, rfl, ?_⟩
      refine ⟨_, rfl, two_sz, fun tp htp => ?_⟩
      have s1 := same_new (o := .tup [.ty "list", .ty "tuple"]) htp
      refine ⟨_, tp, _, _, _, _, rfl, upd_same, .cons (.ty _) (.cons (.ty _) .nil), .base (.tup (s1 _ _ hb)), kitAny_cons (b := false) (r := true) (kt (show kitB "tuple" "list" = some false by decide +kernel)) (fun _ => kitAny_cons (b := true) (r := true) (kt (show kitB "tuple" "tuple" = some true by decide +kernel)) (fun z => by cases z) (fun _ => rfl)) (fun z => by cases z), _, rfl, ?_⟩
      have ha1 := s1 _ _ ha
      have hb1 := s1 _ _ hb
      have hch1 : ∀ (i : Nat) u v, xs[i]? = some u → ys[i]? = some v → AL 2 _ u v := fun i u v hu hv => (hch i u v hu hv).same 2 s1
      generalize upd H tp (.tup [.ty "list", .ty "tuple"]) = H1 at s1 ha1 hb1 hch1 ⊢
      refine ⟨_, rfl, _, _, _, _, _, rfl, .ty _, .base (.tup hb1), kt (b := "list") (show kitB "tuple" "list" = some false by decide +kernel), _, rfl, ?_⟩
      refine ⟨_, rfl, _, _, _, _, _, rfl, .ty _, .base (.tup hb1), kt (b := "tuple") (show kitB "tuple" "tuple" = some true by decide +kernel), _, rfl, ?_⟩
      refine ⟨_, rfl, _, _, _, _, _, rfl, .ty _, .base (.tup ha1), kt (b := "tuple") (show kitB "tuple" "tuple" = some true by decide +kernel), _, rfl, ?_⟩
      refine ⟨_, rfl, a, _, rfl, .inr (SqT.of ha1), _, rfl, b, _, rfl, .inr (SqT.of hb1), rfl, _, rfl, ?_⟩
      rw [hl, decide_eq_true rfl]
      refine ⟨_, rfl, _, rfl, a, b, xs, ys, rfl, .inr ⟨SqT.of ha1, SqT.of hb1, ?_⟩⟩
      refine RZ.for_zipT (K := K) (xs := xs) (ys := ys) hl (fun i σ H' => ∃ (v2 v3 : Option V), σ = [some (.ref a), some (.ref b), v2, v3] ∧ Same H1 H') ⟨none, none, rfl, Same.refl _⟩ (fun i σ H' ⟨_, _, _, s⟩ => ⟨SqT.of (s _ _ ha1), SqT.of (s _ _ hb1)⟩) ?_ ?_
      · rintro i u v tt σ H2 hu hv ⟨v2, v3, rfl, s2⟩ htt
        have s3 : Same H1 (upd H2 tt (.tup [u, v])) := s2.trans (same_new htt)
        refine ⟨tt, _, rfl, SqT.of upd_same, rfl, _, _, rfl, _, _, rfl, rfl, ?_⟩
        refine ⟨_, rfl, _, rfl, u, v, rfl, (hch1 i u v hu hv).same 2 s3, fun H3 s4 => ⟨_, rfl, ?_⟩⟩
        exact ⟨_, _, rfl, s3.trans s4⟩
      · rintro σ H2 ⟨v2, v3, rfl, s2⟩
        exact kQ H2 (s1.trans s2)
theorem cal__law_alike3 {P : Program} {w : World} {K : PySem.W.Frag} {mg : Str → Option Value} {base : Heap} (T : Txt w K mg) : Cal P w K mg base 4 "_law_alike" ["_law_found", "_law_due_here"] (sp__law_alike3 K) := ⟨_, _, ok__law_alike3 T, T.g__law_alike, T.f__law_alike.kp, T.f__law_alike.bindsN (ps := ["_law_found", "_law_due_here"]) fun _ _ _ _ _ _ us hl => match us, hl with | [_, _], _ => rfl⟩
end Rb
end

section
set_option Elab.async false
set_option linter.all false
set_option maxRecDepth 100000
set_option maxHeartbeats 4000000
namespace Rb
open PySem PySem.Spec PyProof.Rows L2

/-- flat data -/
def Fl (v : V) : Prop := (∃ i, v = .int i) ∨ ∃ s, v = .str s ∧ (PyData.str s).canLay0 = true
def dv : V → PyData
  | .int i => .int i
  | .str s => .str s
  | _ => .none
theorem fl_dp {K : PySem.W.Frag} {H : Hp} : ∀ {xs : List V}, (∀ v ∈ xs, Fl v) → DpAll K H xs (xs.map dv)
  | [], _ => .nil
  | v :: r, h => by
    refine .cons ?_ (fl_dp fun u hu => h u (List.mem_cons_of_mem _ hu))
    rcases h v List.mem_cons_self with ⟨i, rfl⟩ | ⟨s, rfl, _⟩
    · exact .int i
    · exact .str s
theorem fl_lay : ∀ {xs : List V}, (∀ v ∈ xs, Fl v) → PyData.canLayAll0 (xs.map dv) = true ∧ PyData.depthAll (xs.map dv) = 0
  | [], _ => by simp [PyData.canLayAll0, PyData.depthAll]
  | v :: r, h => by
    obtain ⟨h1, h2⟩ := fl_lay fun u hu => h u (List.mem_cons_of_mem _ hu)
    rw [List.map_cons]
    rcases h v List.mem_cons_self with ⟨i, rfl⟩ | ⟨s, rfl, hs⟩
    · simp [PyData.canLayAll0, PyData.depthAll, h1, h2, dv, PyData.canLay0, PyData.depth]
    · simp [PyData.canLayAll0, PyData.depthAll, h1, h2, dv, hs, PyData.depth]
def Stp.dat (st : Stp) : PyData := .tuple (st.vals.map dv)
/-- a step's data are plain -/
def Stp.pln (st : Stp) : Prop := ∀ v ∈ st.vals, Fl v
theorem fold9_lay {f : Str} (h : Fold9 f) : (PyData.str f).canLay0 = true := by
  rcases h with h | h | h | h | h | h | h | h | h <;> (subst h; decide +kernel)
theorem ok_pln {W : WS} {st : Stp} (h : W.ok st) : st.pln := fun v hv => by
  have hi : ∀ i : Int, Fl (.int i) := fun i => .inl ⟨i, rfl⟩
  have hs : ∀ s : Str, (PyData.str s).canLay0 = true → Fl (.str s) := fun s h => .inr ⟨s, rfl, h⟩
  cases st <;> simp only [Stp.vals, List.mem_cons, List.not_mem_nil, or_false] at hv
  case op => rcases hv with rfl | rfl | rfl | rfl | rfl | rfl <;> first | exact hi _ | exact hs _ h.2.2.2.2 | exact hs _ (by decide +kernel)
  case fold => rcases hv with rfl | rfl | rfl | rfl | rfl <;> first | exact hi _ | exact hs _ (fold9_lay h.2.2.2) | exact hs _ (by decide +kernel)
  case running => rcases hv with rfl | rfl | rfl | rfl | rfl <;> first | exact hi _ | exact hs _ (fold9_lay h.2.2.2) | exact hs _ (by decide +kernel)
  all_goals
    repeat' (first | (rcases hv with rfl | hv) | subst hv)
    all_goals first | exact hi _ | exact hs _ (by decide +kernel)
theorem turn_pln {st : Stp} {f : Nat → Nat} (h : st.pln) : (st.turn f).pln := fun v hv => by
  have hi : ∀ i : Int, Fl (.int i) := fun i => .inl ⟨i, rfl⟩
  cases st <;> first
    | exact h v hv
    | (simp only [Stp.turn, Stp.vals, List.mem_cons, List.not_mem_nil, or_false] at hv
       have h' := fun u => h u
       simp only [Stp.vals, List.mem_cons, List.not_mem_nil, or_false] at h'
       repeat' (first | (rcases hv with rfl | hv) | subst hv)
       all_goals first | exact hi _ | exact h' _ (by simp))
theorem cs_dp {K : PySem.W.Frag} {H : Hp} : ∀ {cs : List (Addr × Stp)}, (∀ q ∈ cs, H q.1 = some (.tup q.2.vals)) → (∀ q ∈ cs, q.2.pln) → DpAll K H (cs.map fun q => V.ref q.1) (cs.map fun q => q.2.dat)
  | [], _, _ => .nil
  | q :: r, h, hp => .cons (.tup (SqT.of (h q List.mem_cons_self)) (fl_dp (hp q List.mem_cons_self))) (cs_dp (fun u hu => h u (List.mem_cons_of_mem _ hu)) fun u hu => hp u (List.mem_cons_of_mem _ hu))
theorem cs_lay : ∀ {cs : List (Addr × Stp)}, (∀ q ∈ cs, q.2.pln) → PyData.canLayAll0 (cs.map fun q => q.2.dat) = true ∧ PyData.depthAll (cs.map fun q => q.2.dat) ≤ 1
  | [], _ => by simp [PyData.canLayAll0, PyData.depthAll]
  | q :: r, h => by
    obtain ⟨h1, h2⟩ := cs_lay fun u hu => h u (List.mem_cons_of_mem _ hu)
    obtain ⟨h3, h4⟩ := fl_lay (h q List.mem_cons_self)
    rw [List.map_cons]
    have e1 : q.2.dat.canLay0 = true := by simp [Stp.dat, PyData.canLay0, h3]
    have e2 : q.2.dat.depth = 1 := by simp [Stp.dat, PyData.depth, h4]
    constructor
    · simp [PyData.canLayAll0, h1, e1]
    · simp only [PyData.depthAll, e2]
      omega
theorem fl_ints (ns : List Int) : ∀ v ∈ ns.map V.int, Fl v := fun v hv => by
  obtain ⟨i, _, rfl⟩ := List.mem_map.mp hv
  exact .inl ⟨i, rfl⟩
theorem fl_nats (ns : List Nat) : ∀ v ∈ ns.map (fun (n : Nat) => V.int (n : Int)), Fl v := fun v hv => by
  obtain ⟨i, _, rfl⟩ := List.mem_map.mp hv
  exact .inl ⟨_, rfl⟩
def hand5 (cs : List (Addr × Stp)) (a b c d : List V) : PyData := .list [.list (cs.map fun q => q.2.dat), .list (a.map dv), .list (b.map dv), .list (c.map dv), .list (d.map dv)]
theorem hand5_ok {cs : List (Addr × Stp)} {a b c d : List V} (h0 : ∀ q ∈ cs, q.2.pln) (ha : ∀ v ∈ a, Fl v) (hb : ∀ v ∈ b, Fl v) (hc : ∀ v ∈ c, Fl v) (hd : ∀ v ∈ d, Fl v) : (hand5 cs a b c d).canLay0 = true ∧ (hand5 cs a b c d).depth ≤ 64 := by
  obtain ⟨p0, q0⟩ := cs_lay h0
  obtain ⟨p1, q1⟩ := fl_lay ha
  obtain ⟨p2, q2⟩ := fl_lay hb
  obtain ⟨p3, q3⟩ := fl_lay hc
  obtain ⟨p4, q4⟩ := fl_lay hd
  constructor
  · simp [hand5, PyData.canLay0, PyData.canLayAll0, p0, p1, p2, p3, p4]
  · simp only [hand5, PyData.depth, PyData.depthAll, q1, q2, q3, q4]
    omega
theorem hand5_dp {K : PySem.W.Frag} {H : Hp} {cs : List (Addr × Stp)} {a b c d : List V} {x pa pb pc pd p : Addr} (h0 : ∀ q ∈ cs, q.2.pln) (ha : ∀ v ∈ a, Fl v) (hb : ∀ v ∈ b, Fl v) (hc : ∀ v ∈ c, Fl v) (hd : ∀ v ∈ d, Fl v)
    (ht : ∀ q ∈ cs, H q.1 = some (.tup q.2.vals)) (e : H p = some (.lst [.ref x, .ref pa, .ref pb, .ref pc, .ref pd])) (ex : H x = some (.lst (cs.map fun q => V.ref q.1))) (ea : H pa = some (.lst a)) (eb : H pb = some (.lst b)) (ec : H pc = some (.lst c)) (ed : H pd = some (.lst d)) : Dp K H (.ref p) (hand5 cs a b c d) :=
  .lst (SqL.of e) (.cons (.lst (SqL.of ex) (cs_dp ht h0)) (.cons (.lst (SqL.of ea) (fl_dp ha)) (.cons (.lst (SqL.of eb) (fl_dp hb)) (.cons (.lst (SqL.of ec) (fl_dp hc)) (.cons (.lst (SqL.of ed) (fl_dp hd)) .nil)))))
def sp__law_ran (K : PySem.W.Frag) : Sp := fun vs H Q _ => ∃ (co la ca da pa : Addr) (g lanes : Nat) (len : List Nat) (rc : Nat → Nat → Int) (dst pst : List Int) (cs : List (Addr × Stp)) (F : MS → Option (Int × Int × Str) → Prop), vs = [.ref co, .ref la, .ref ca, .int lanes, .ref da, .ref pa] ∧
  H co = some (.lst (cs.map fun q => V.ref q.1)) ∧ (∀ q ∈ cs, H q.1 = some (.tup q.2.vals)) ∧ (∀ q ∈ cs, q.2.pln) ∧ cs.length ≤ 1000 ∧
  H la = some (.lst (len.map fun (n : Nat) => V.int (n : Int))) ∧ H ca = some (.lst ((flat len 0 rc).map V.int)) ∧ (flat len 0 rc).length ≤ 10000 ∧ H da = some (.lst (dst.map V.int)) ∧ H pa = some (.lst (pst.map V.int)) ∧ (MS.made g lanes len rc).WF ∧ (∀ n ∈ dst, KR n) ∧ dst.length ≤ 1000 ∧ pst.length ≤ 1000 ∧
  Plays (cs.map (·.2)) (MS.made g lanes len rc) F ∧
  ∀ (m : MS) (ref : Option (Int × Int × Str)) (p q t : Addr) (v : V) (ts : List V) (H' : Hp), F m ref → Same H H' → H' p = some (.tup [.ref q, v, .ref t]) → H' q = some (.lst ((flat m.len 0 m.rc).map V.int)) → H' t = some (.lst ts) → RefV H' v ref → Q (.ref p) H'
theorem sc__law_ran : FnScope ["_law_code", "_law_lengths", "_law_cells", "_law_lanes_here", "_law_dust_here", "_law_picks", "_law_handed", "_law_found"] ["_law_code", "_law_lengths", "_law_cells", "_law_lanes_here", "_law_dust_here", "_law_picks"] (defScope s__law_ran) := ⟨rfl, rfl, rfl, by decide +kernel, rfl, by decide +kernel, by decide +kernel⟩
theorem ok__law_ran {P : Program} {w : World} {K : PySem.W.Frag} {mg : Str → Option Value} {base : Heap} (T : Txt w K mg) : FnOk P w K mg base CX0 11 (ad__law_ran K) (fdOf K (ad__law_ran K)) ["_law_code", "_law_lengths", "_law_cells", "_law_lanes_here", "_law_dust_here", "_law_picks"] (sp__law_ran K) := by
  have C_ran := cal_ran (P := P) (base := base) T
  refine T.f__law_ran.ok sc__law_ran (fun vs H Q E h => ?_) (fun cdv A outer s H vs Q E hr h => ?_)
  · obtain ⟨_, _, _, _, _, _, _, _, _, _, _, _, _, rfl, _⟩ := h
    rfl
  · have hu := hu_of hr
    have nd := sc__law_ran.nd
    refine ⟨_, PSs.nox ((pss_cons (ps_set (i := 6) nd rfl (Or.inl rfl) (pe_lst (pa_cons (pe_callTy call_list_of rfl T.b_list (by decide +kernel) (pa_cons (pv 0) pa_nil)) (pa_cons (pe_callTy call_list_of rfl T.b_list (by decide +kernel) (pa_cons (pv 1) pa_nil)) (pa_cons (pe_callTy call_list_of rfl T.b_list (by decide +kernel) (pa_cons (pv 2) pa_nil)) (pa_cons (pe_callTy call_list_of rfl T.b_list (by decide +kernel) (pa_cons (pv 4) pa_nil)) (pa_cons (pe_callTy call_list_of rfl T.b_list (by decide +kernel) (pa_cons (pv 5) pa_nil)) pa_nil)))))))
      (pss_cons (ps_set (i := 7) nd rfl (Or.inl rfl) (pe_cl C_ran (hr.mono (by decide)) (pa_cons (pe_ix ix_list (pv 6) pe_int (fun _ _ => rfl)) (pa_cons (pe_ix ix_list (pv 6) pe_int (fun _ _ => rfl)) (pa_cons (pe_ix ix_list (pv 6) pe_int (fun _ _ => rfl)) (pa_cons (pv 3) (pa_cons (pe_ix ix_list (pv 6) pe_int (fun _ _ => rfl)) (pa_cons (pe_ix ix_list (pv 6) pe_int (fun _ _ => rfl)) pa_nil))))))))
      (pss_cons (ps_if (pt_cmpR (op_neD hr.units) (pv 6) (pe_lst (pa_cons (pv 0) (pa_cons (pv 1) (pa_cons (pv 2) (pa_cons (pv 4) (pa_cons (pv 5) pa_nil)))))) (nomark _))
      (pss_one (ps_ret pe_non))
      pss_nil)
      (pss_one (ps_ret (pv 7))))))), ?_⟩
    obtain ⟨co, la, ca, da, pa, g, lanes, len, rc, dst, pst, cs, F, rfl, hco, hcs, hpl, hcl, hLa, hCa, hCal, hDa, hPa, wf, hdk, hdl, hpsl, hP, kQ⟩ := h
    refine ⟨_, rfl, co, _, rfl, .inl (SqL.of hco), fun x0 hx0 => ?_⟩
    have c0 : upd H x0 (.lst (cs.map fun q => V.ref q.1)) x0 = some (.lst (cs.map fun q => V.ref q.1)) := upd_same
    have u0 : Same H (upd H x0 (.lst (cs.map fun q => V.ref q.1))) := same_new hx0
    generalize upd H x0 (.lst (cs.map fun q => V.ref q.1)) = H1 at c0 u0 ⊢
    refine ⟨_, rfl, la, _, rfl, .inl (SqL.of (u0 _ _ hLa)), fun x1 hx1 => ?_⟩
    have c1 : upd H1 x1 (.lst (len.map fun (n : Nat) => V.int (n : Int))) x1 = some (.lst (len.map fun (n : Nat) => V.int (n : Int))) := upd_same
    have u1 : Same H1 (upd H1 x1 (.lst (len.map fun (n : Nat) => V.int (n : Int)))) := same_new hx1
    generalize upd H1 x1 (.lst (len.map fun (n : Nat) => V.int (n : Int))) = H2 at c1 u1 ⊢
    have s2 := u0.trans u1
    refine ⟨_, rfl, ca, _, rfl, .inl (SqL.of (s2 _ _ hCa)), fun x2 hx2 => ?_⟩
    have c2 : upd H2 x2 (.lst ((flat len 0 rc).map V.int)) x2 = some (.lst ((flat len 0 rc).map V.int)) := upd_same
    have u2 : Same H2 (upd H2 x2 (.lst ((flat len 0 rc).map V.int))) := same_new hx2
    generalize upd H2 x2 (.lst ((flat len 0 rc).map V.int)) = H3 at c2 u2 ⊢
    have s3 := s2.trans u2
    refine ⟨_, rfl, da, _, rfl, .inl (SqL.of (s3 _ _ hDa)), fun x3 hx3 => ?_⟩
    have c3 : upd H3 x3 (.lst (dst.map V.int)) x3 = some (.lst (dst.map V.int)) := upd_same
    have u3 : Same H3 (upd H3 x3 (.lst (dst.map V.int))) := same_new hx3
    generalize upd H3 x3 (.lst (dst.map V.int)) = H4 at c3 u3 ⊢
    have s4 := s3.trans u3
    refine ⟨_, rfl, pa, _, rfl, .inl (SqL.of (s4 _ _ hPa)), fun x4 hx4 => ?_⟩
    have c4 : upd H4 x4 (.lst (pst.map V.int)) x4 = some (.lst (pst.map V.int)) := upd_same
    have u4 : Same H4 (upd H4 x4 (.lst (pst.map V.int))) := same_new hx4
    generalize upd H4 x4 (.lst (pst.map V.int)) = H5 at c4 u4 ⊢
    have s5 := s4.trans u4
    refine ⟨small_sz (by simp), fun hd hhd => ?_⟩
    have c5 : upd H5 hd (.lst [.ref x0, .ref x1, .ref x2, .ref x3, .ref x4]) hd = some (.lst [.ref x0, .ref x1, .ref x2, .ref x3, .ref x4]) := upd_same
    have u5 : Same H5 (upd H5 hd (.lst [.ref x0, .ref x1, .ref x2, .ref x3, .ref x4])) := same_new hhd
    generalize upd H5 hd (.lst [.ref x0, .ref x1, .ref x2, .ref x3, .ref x4]) = H6 at c5 u5 ⊢
    have s6 := s5.trans u5
    have d0 := u5 _ _ (u4 _ _ (u3 _ _ (u2 _ _ (u1 _ _ c0))))
    have d1 := u5 _ _ (u4 _ _ (u3 _ _ (u2 _ _ c1)))
    have d2 := u5 _ _ (u4 _ _ (u3 _ _ c2))
    have d3 := u5 _ _ (u4 _ _ c3)
    have d4 := u5 _ _ c4
    have ixh : ∀ (j : Nat) (y : V), ([.ref x0, .ref x1, .ref x2, .ref x3, .ref x4] : List V)[j]? = some y → atI ([.ref x0, .ref x1, .ref x2, .ref x3, .ref x4] : List V) (j : Int) = some y := fun j y h => atI_of rfl h
    refine ⟨_, rfl, _, _, _, _, rfl, rfl, SqL.of c5, ixh 0 _ rfl, _, rfl, _, _, _, _, rfl, rfl, SqL.of c5, ixh 1 _ rfl, _, rfl, _, _, _, _, rfl, rfl, SqL.of c5, ixh 2 _ rfl, _, rfl, _, rfl, _, _, _, _, rfl, rfl, SqL.of c5, ixh 3 _ rfl, _, rfl, _, _, _, _, rfl, rfl, SqL.of c5, ixh 4 _ rfl, ?_⟩
    refine ⟨x0, x1, x2, x3, x4, g, lanes, len, rc, dst, pst, cs, F, rfl, d0, fun q hq => s6 _ _ (hcs q hq), d1, d2, d3, d4, wf, hdk, hdl, hpsl, hP, fun m ref p q t v ts H7 hF s7 h1 h2 h3 h4 => ?_⟩
    have s67 := s6.trans s7
    refine ⟨_, rfl, _, rfl, _, rfl, _, rfl, _, rfl, _, rfl, small_sz (by simp), fun l9 hl9 => ?_⟩
    have c9 : upd H7 l9 (.lst [.ref co, .ref la, .ref ca, .ref da, .ref pa]) l9 = some (.lst [.ref co, .ref la, .ref ca, .ref da, .ref pa]) := upd_same
    have u9 : Same H7 (upd H7 l9 (.lst [.ref co, .ref la, .ref ca, .ref da, .ref pa])) := same_new hl9
    generalize upd H7 l9 (.lst [.ref co, .ref la, .ref ca, .ref da, .ref pa]) = H8 at c9 u9 ⊢
    have s8 := s67.trans u9
    have s78 := s7.trans u9
    obtain ⟨k1, k2⟩ := hand5_ok hpl (fl_nats len) (fl_ints (flat len 0 rc)) (fl_ints dst) (fl_ints pst)
    have shp : SeqAt.shaped (hand5 cs (len.map fun (n : Nat) => V.int (n : Int)) ((flat len 0 rc).map V.int) (dst.map V.int) (pst.map V.int)) = true := by
      unfold SeqAt.shaped
      rw [k1, decide_eq_true k2]
      rfl
    have ht8 : ∀ q ∈ cs, H8 q.1 = some (.tup q.2.vals) := fun q hq => s8 _ _ (hcs q hq)
    have dA := hand5_dp (K := K) hpl (fl_nats len) (fl_ints (flat len 0 rc)) (fl_ints dst) (fl_ints pst) ht8 (s78 _ _ c5) (s78 _ _ d0) (s78 _ _ d1) (s78 _ _ d2) (s78 _ _ d3) (s78 _ _ d4)
    have dB := hand5_dp (K := K) hpl (fl_nats len) (fl_ints (flat len 0 rc)) (fl_ints dst) (fl_ints pst) ht8 c9 (s8 _ _ hco) (s8 _ _ hLa) (s8 _ _ hCa) (s8 _ _ hDa) (s8 _ _ hPa)
    refine ⟨_, _, dA, dB, shp, shp, _, rfl, ?_⟩
    rw [PySem.SeqAt.eqv_refl _ k1]
    exact ⟨_, rfl, kQ m ref p q t v ts H8 hF s8 (u9 _ _ h1) (u9 _ _ h2) (u9 _ _ h3) (h4.same u9)⟩
theorem cal__law_ran {P : Program} {w : World} {K : PySem.W.Frag} {mg : Str → Option Value} {base : Heap} (T : Txt w K mg) : Cal P w K mg base 11 "_law_ran" ["_law_code", "_law_lengths", "_law_cells", "_law_lanes_here", "_law_dust_here", "_law_picks"] (sp__law_ran K) := ⟨_, _, ok__law_ran T, T.g__law_ran, T.f__law_ran.kp, T.f__law_ran.bindsN (ps := ["_law_code", "_law_lengths", "_law_cells", "_law_lanes_here", "_law_dust_here", "_law_picks"]) fun _ _ _ _ _ _ us hl => match us, hl with | [_, _, _, _, _, _], _ => rfl⟩
end Rb
end

section
set_option Elab.async false
set_option linter.all false
set_option maxRecDepth 100000
set_option maxHeartbeats 4000000
namespace Rb
open PySem PySem.Spec PyProof.Rows L2

/-- the length of the list at a reference -/
def lnO : Option HO → V
  | some (.lst ys) => .int (ys.length : Int)
  | _ => .non
def lnV (H : Hp) : V → V
  | .ref a => lnO (H a)
  | _ => .non
theorem lnV_at {H : Hp} {a : Addr} {ys : List V} (h : H a = some (.lst ys)) : lnV H (.ref a) = .int (ys.length : Int) := by
  show lnO (H a) = _
  rw [h]
  rfl
def sp__law_told (K : PySem.W.Frag) : Sp := fun vs H Q _ => ∃ (bo mp pa da pk : Addr) (many g lanes : Nat) (len : List Nat) (rc : Nat → Nat → Int) (dst pst : List Int) (as : List Addr) (bs : List (Addr × Stp)), vs = [.ref bo, .ref mp, .ref pa, .int lanes, .ref da, .ref pk] ∧ ∃ (F : MS → Option (Int × Int × Str) → Prop),
  H bo = some (.lst (bs.map fun q => V.ref q.1)) ∧ (∀ q ∈ bs, H q.1 = some (.tup q.2.vals)) ∧ (∀ q ∈ bs, q.2.pln) ∧ bs.length ≤ 900 ∧ H mp = some (.tup [.int many, .int g]) ∧
  H pa = some (.lst (as.map V.ref)) ∧ as.length = 7 ∧ (∀ (k : Nat) (a : Addr) (n : Nat), as[k]? = some a → len[k]? = some n → H a = some (.lst ((List.range n).map fun i => V.int (rc k i)))) ∧ H da = some (.lst (dst.map V.int)) ∧ H pk = some (.lst (pst.map V.int)) ∧ (MS.made g lanes len rc).WF ∧ (∀ n ∈ dst, KR n) ∧ dst.length ≤ 1000 ∧ pst.length ≤ 1000 ∧ (∀ n ∈ len, n ≤ 400) ∧
  Plays (.begin many g :: bs.map (·.2)) (MS.made g lanes len rc) F ∧
  ∀ (m : MS) (ref : Option (Int × Int × Str)) (p q : Addr) (v : V) (H' : Hp), F m ref → Same H H' → H' p = some (.tup [.ref q, v]) → H' q = some (.lst ((flat m.len 0 m.rc).map V.int)) → RefV H' v ref → Q (.ref p) H'
theorem sc__law_told : FnScope ["_law_body", "_law_many", "_law_parts_here", "_law_lanes_here", "_law_dust_here", "_law_picks", "_law_lengths", "_law_part", "_law_cells", "_law_found"] ["_law_body", "_law_many", "_law_parts_here", "_law_lanes_here", "_law_dust_here", "_law_picks"] (defScope s__law_told) := ⟨rfl, rfl, rfl, by decide +kernel, rfl, by decide +kernel, by decide +kernel⟩
theorem ok__law_told {P : Program} {w : World} {K : PySem.W.Frag} {mg : Str → Option Value} {base : Heap} (T : Txt w K mg) : FnOk P w K mg base CX0 12 (ad__law_told K) (fdOf K (ad__law_told K)) ["_law_body", "_law_many", "_law_parts_here", "_law_lanes_here", "_law_dust_here", "_law_picks"] (sp__law_told K) := by
  have C__law_ran := cal__law_ran (P := P) (base := base) T
  refine T.f__law_told.ok sc__law_told (fun vs H Q E h => ?_) (fun cdv A outer s H vs Q E hr h => ?_)
  · obtain ⟨_, _, _, _, _, _, _, _, _, _, _, _, _, _, rfl, _⟩ := h
    rfl
  · have hu := hu_of hr
    have nd := sc__law_told.nd
    refine ⟨_, PSs.nox ((pss_cons (ps_setLc (i := 6) (own := [("_law_part", 7)]) (g := gName 7) rfl nd rfl rfl (sw_true rfl rfl rfl (by decide +kernel)) (pi_list (pv 2)) (blkOk_by (N := ["_law_body", "_law_many", "_law_parts_here", "_law_lanes_here", "_law_dust_here", "_law_picks", "_law_lengths", "_law_part", "_law_cells", "_law_found"]) (sc := defScope s__law_told) (by decide +kernel)) (fun _ _ _ _ _ => pg_name (i := 7) nd rfl (Or.inl rfl)) (fun _ _ _ _ _ => pts_nil) (fun _ _ _ _ _ => (pe_callB (lenK K) rfl T.b_len PySem.boot_len (pa_cons (pv 7) pa_nil))))
      (pss_cons (ps_set (i := 8) nd rfl (Or.inl rfl) (pe_lst pa_nil))
      (pss_cons (ps_for PassesOwn.never rfl (pi_list (pv 2)) (pg_name (i := 7) nd rfl (Or.inl rfl))
      (pss_one (ps_expr (pe_bm PySem.F.plainAttrs_list PySem.F.slot_list_extend PySem.F.type_list_extend mt_extend (pv 8) (pa_cons (pv 7) pa_nil)))))
      (pss_cons (ps_set (i := 9) nd rfl (Or.inl rfl) (pe_cl C__law_ran (hr.mono (by decide)) (pa_cons (pe_op op_cat (pe_lst (pa_cons (pe_tup (pa_cons pe_str (pa_cons (pe_ix ix_tup (pv 1) pe_int (fun _ _ => rfl)) (pa_cons (pe_ix ix_tup (pv 1) pe_int (fun _ _ => rfl)) pa_nil)))) pa_nil)) (pv 0)) (pa_cons (pv 6) (pa_cons (pv 8) (pa_cons (pv 3) (pa_cons (pv 4) (pa_cons (pv 5) pa_nil))))))))
      (pss_cons (ps_if (PW.pt (pw_or (pt_not (pt_val (pe_callB call_isi rfl T.b_isinstance (by decide +kernel) (pa_cons (pv 9) (pa_cons (pe_bltn (v := .ty "tuple") rfl T.b_tuple (by decide +kernel) rfl) pa_nil))))) (pw_or1 (pt_cmpR op_ne (pe_callB call_len_seq rfl T.b_len PySem.boot_len (pa_cons (pv 9) pa_nil)) pe_int (nomark _)))))
      (pss_one (ps_ret pe_non))
      pss_nil)
      (pss_one (ps_ret (pe_tup (pa_cons (pe_ix ix_tup (pv 9) pe_int (fun _ _ => rfl)) (pa_cons (pe_ix ix_tup (pv 9) pe_int (fun _ _ => rfl)) pa_nil))))))))))), ?_⟩
    obtain ⟨bo, mp, pa, da, pk, many, g, lanes, len, rc, dst, pst, as, bs, rfl, F, hbo, hbs, hpl, hbl, hmp, hpa, hal, hA, hda, hpk, wf, hdk, hdl, hpsl, hlb, hP, kQ⟩ := h
    have hl7 : len.length = 7 := wf.len7
    -- BODY
    have hlen : ∀ (k : Nat) (a : Addr), as[k]? = some a → ∃ n, len[k]? = some n ∧ n ≤ 400 ∧ H a = some (.lst ((List.range n).map fun i => V.int (rc k i))) := fun k a h => by
      have hk : k < len.length := by
        have := (List.getElem?_eq_some_iff.mp h).1
        omega
      exact ⟨len[k], List.getElem?_eq_getElem hk, hlb _ (List.getElem_mem hk), hA k a _ h (List.getElem?_eq_getElem hk)⟩
    have hm_ix : ∀ x ∈ as.map V.ref, ∃ (k : Nat) (a : Addr), as[k]? = some a ∧ x = .ref a := fun x hx => by
      obtain ⟨a, ha, rfl⟩ := List.mem_map.mp hx
      obtain ⟨k, hk⟩ := List.mem_iff_getElem?.mp ha
      exact ⟨k, a, hk, rfl⟩
    refine ⟨_, rfl, pa, rfl, ⟨_, SqL.of hpa⟩, fun D hD => ?_⟩
    refine comp_list (K := K) hD (SqL.of hpa) (lnV H) (fun _ => true) (by rw [List.length_map, hal]; decide) (fun x H' hx s1 Q' q => q H' (Same.refl _)) (fun x H' hx _ s1 Q' q => ?_) (fun H1 s1 h1 => ?_)
    · obtain ⟨k, a, hk, rfl⟩ := hm_ix x hx
      obtain ⟨n, hn1, hn2, hn3⟩ := hlen k a hk
      have e := lnV_at hn3
      rw [e] at q
      exact ⟨_, rfl, a, _, rfl, .inl (SqL.of (s1 _ _ hn3)), q _ (Same.refl _)⟩
    have eL : ((as.map V.ref).filter fun _ => true).map (lnV H) = len.map fun (n : Nat) => V.int (n : Int) := by
      rw [List.filter_eq_self.mpr (fun _ _ => rfl), List.map_map]
      apply List.ext_getElem?
      intro k
      rw [List.getElem?_map, List.getElem?_map]
      cases hk : as[k]? with
      | none =>
        have : as.length ≤ k := List.getElem?_eq_none_iff.mp hk
        rw [List.getElem?_eq_none (by omega)]
        rfl
      | some a =>
        obtain ⟨n, hn1, hn2, hn3⟩ := hlen k a hk
        rw [hn1]
        show some (lnV H (.ref a)) = some (V.int (n : Int))
        rw [lnV_at hn3, List.length_map, List.length_range]
    rw [eL] at h1
    refine ⟨nil_sz, fun C hC => ?_⟩
    have cC : upd H1 C (.lst []) C = some (.lst []) := upd_same
    have uC : Same H1 (upd H1 C (.lst [])) := same_new hC
    generalize hH2 : upd H1 C (.lst []) = H2 at cC uC ⊢
    have s2 := s1.trans uC
    have hCH : H C = none := s1.free hC
    have hDC : D ≠ C := fun z => by rw [← z, h1] at hC; cases hC
    have hD2 := uC _ _ h1
    have hpaC : pa ≠ C := fun z => by rw [← z, hpa] at hCH; cases hCH
    refine ⟨_, rfl, pa, rfl, ⟨_, SqL.of (s2 _ _ hpa)⟩, for_list (K := K) (a := pa) (xs := as.map V.ref) (fun i σ H' => ∃ (v7 : Option V), σ = [some (.ref bo), some (.ref mp), some (.ref pa), some (.int (lanes : Int)), some (.ref da), some (.ref pk), some (.ref D), v7, some (.ref C), none] ∧ Same H H' ∧ H' D = some (.lst (len.map fun (n : Nat) => V.int (n : Int))) ∧ ∃ xs : List Int, H' C = some (.lst (xs.map V.int)) ∧ xs ++ flat (len.drop i) i rc = flat len 0 rc ∧ xs.length ≤ 400 * i)
      ⟨none, rfl, s2, hD2, [], cC, rfl, Nat.zero_le _⟩ (fun i σ H' _ ⟨_, _, s, _⟩ => SqL.of (s _ _ hpa)) ?_ ?_⟩
    · rintro i y σ H' hi ⟨v7, rfl, s3, hD3, xs, hC3, hx1, hx2⟩
      have hi7 : i < 7 := by
        have := (List.getElem?_eq_some_iff.mp hi).1
        rw [List.length_map, hal] at this
        exact this
      obtain ⟨a, ha, rfl⟩ : ∃ a, as[i]? = some a ∧ y = .ref a := by
        rw [List.getElem?_map] at hi
        cases hz : as[i]? with
        | none => rw [hz] at hi; cases hi
        | some z => rw [hz] at hi; cases hi; exact ⟨z, rfl, rfl⟩
      obtain ⟨n, hn1, hn2, hn3⟩ := hlen i a ha
      have e1 : ((List.range n).map fun j => V.int (rc i j)) = ((List.range n).map (rc i)).map V.int := by rw [List.map_map]; rfl
      rw [e1] at hn3
      have e2 : len.drop i = n :: len.drop (i + 1) := by
        obtain ⟨hlt, hg⟩ := List.getElem?_eq_some_iff.mp hn1
        rw [List.drop_eq_getElem_cons hlt, hg]
      rw [e2] at hx1
      refine ⟨_, rfl, lty hC3, _, rfl, C, a, _, _, rfl, rfl, hC3, s3 _ _ hn3, ?_, ?_⟩
      · rw [List.length_map, List.length_map, List.length_map, List.length_range]
        exact sz_le (by omega)
      refine ⟨_, rfl, same_upd s3 hCH, by rw [upd_ne hDC]; exact hD3, xs ++ (List.range n).map (rc i), by rw [upd_same, List.map_append], ?_, ?_⟩
      · rw [List.append_assoc]
        exact hx1
      · rw [List.length_append, List.length_map, List.length_range]
        omega
    rintro σ H3 ⟨v7, rfl, s3, hD3, xs, hC3, hx1, hx2⟩
    rw [List.length_map, hal] at hx1 hx2
    have e3 : xs = flat len 0 rc := by
      rw [← hx1, List.drop_eq_nil_of_le (by omega)]
      show xs = xs ++ []
      rw [List.append_nil]
    subst e3
    refine ⟨_, rfl, _, _, _, _, rfl, rfl, SqT.of (s3 _ _ hmp), atI_of (j := 0) rfl rfl, _, rfl, _, _, _, _, rfl, rfl, SqT.of (s3 _ _ hmp), atI_of (j := 1) rfl rfl, small_sz (by simp), fun tb htb => ?_⟩
    have cb : upd H3 tb (.tup [.str "begin", .int many, .int g]) tb = some (.tup [.str "begin", .int many, .int g]) := upd_same
    have ub : Same H3 (upd H3 tb (.tup [.str "begin", .int many, .int g])) := same_new htb
    generalize upd H3 tb (.tup [.str "begin", .int many, .int g]) = H4 at cb ub ⊢
    refine ⟨one_sz, fun lb hlb2 => ?_⟩
    have clb : upd H4 lb (.lst [.ref tb]) lb = some (.lst [.ref tb]) := upd_same
    have ulb : Same H4 (upd H4 lb (.lst [.ref tb])) := same_new hlb2
    generalize upd H4 lb (.lst [.ref tb]) = H5 at clb ulb ⊢
    have s5 := (s3.trans ub).trans ulb
    refine ⟨_, rfl, lb, bo, _, _, rfl, rfl, clb, s5 _ _ hbo, ?_, fun lc hlc => ?_⟩
    · rw [List.length_map]
      exact sz_le (by show 1 + bs.length ≤ 1000000; omega)
    have clc : upd H5 lc (.lst ([.ref tb] ++ bs.map fun q => V.ref q.1)) lc = some (.lst ((((tb, Stp.begin many g) :: bs) : List (Addr × Stp)).map fun q => V.ref q.1)) := upd_same
    have ulc : Same H5 (upd H5 lc (.lst ([.ref tb] ++ bs.map fun q => V.ref q.1))) := same_new hlc
    generalize upd H5 lc (.lst ([.ref tb] ++ bs.map fun q => V.ref q.1)) = H6 at clc ulc ⊢
    have s6 := s5.trans ulc
    have s36 := (ub.trans ulb).trans ulc
    refine ⟨_, rfl, _, rfl, _, rfl, _, rfl, _, rfl, ?_⟩
    refine ⟨lc, D, C, da, pk, g, lanes, len, rc, dst, pst, (tb, .begin many g) :: bs, F, rfl, clc, fun q hq => ?_, fun q hq => ?_, by show bs.length + 1 ≤ 1000; omega, s36 _ _ hD3, s36 _ _ hC3, by omega, s6 _ _ hda, s6 _ _ hpk, wf, hdk, hdl, hpsl, hP, fun m ref p q t v ts H7 hF s7 h1 h2 h3 h4 => ?_⟩
    · rcases List.mem_cons.mp hq with rfl | hq
      · exact ulc _ _ (ulb _ _ cb)
      · exact s6 _ _ (hbs q hq)
    · rcases List.mem_cons.mp hq with rfl | hq
      · intro v hv
        have hv2 : v ∈ [V.str "begin", .int many, .int g] := hv
        simp only [List.mem_cons, List.not_mem_nil, or_false] at hv2
        rcases hv2 with rfl | rfl | rfl
        · exact .inr ⟨_, rfl, by decide +kernel⟩
        · exact .inl ⟨_, rfl⟩
        · exact .inl ⟨_, rfl⟩
      · exact hpl q hq
    refine ⟨_, rfl, _, _, _, _, _, rfl, .ty _, .base (.tup h1), kt (b := "tuple") (show kitB "tuple" "tuple" = some true by decide +kernel), _, rfl, ?_⟩
    refine ⟨_, rfl, p, _, rfl, .inr (SqT.of h1), rfl, _, rfl, ?_⟩
    refine iteNF rfl ?_
    exact ⟨_, rfl, _, _, _, _, rfl, rfl, SqT.of h1, atI_of (j := 0) rfl rfl, _, rfl, _, _, _, _, rfl, rfl, SqT.of h1, atI_of (j := 1) rfl rfl, two_sz, fun x hx => kQ m ref x q v _ hF ((s6.trans s7).trans (same_new hx)) upd_same (same_new hx _ _ h2) (h4.same (same_new hx))⟩
theorem cal__law_told {P : Program} {w : World} {K : PySem.W.Frag} {mg : Str → Option Value} {base : Heap} (T : Txt w K mg) : Cal P w K mg base 12 "_law_told" ["_law_body", "_law_many", "_law_parts_here", "_law_lanes_here", "_law_dust_here", "_law_picks"] (sp__law_told K) := ⟨_, _, ok__law_told T, T.g__law_told, T.f__law_told.kp, T.f__law_told.bindsN (ps := ["_law_body", "_law_many", "_law_parts_here", "_law_lanes_here", "_law_dust_here", "_law_picks"]) fun _ _ _ _ _ _ us hl => match us, hl with | [_, _, _, _, _, _], _ => rfl⟩
end Rb
end

section
set_option Elab.async false
set_option linter.all false
set_option maxRecDepth 100000
set_option maxHeartbeats 4000000
namespace Rb
open PySem PySem.Spec PyProof.Rows L2
theorem inj_ofR {α : Type} {ok : α → Bool} {ad : α → Addr} (τ : α → Nat) (G : Nat → Hp) (born : ∀ r, ok r = true → G (τ r) (ad r) = none) (alive : ∀ r, ok r = true → ∃ o, G (τ r + 1) (ad r) = some o)
    (mono : ∀ t b o, G t b = some o → ∃ o', G (t + 1) b = some o') (same : ∀ r r', ok r = true → ok r' = true → τ r = τ r' → ad r = ad r' → r = r') : ∀ r r', ok r = true → ok r' = true → ad r = ad r' → r = r' := by
  have later : ∀ d t b o, G t b = some o → ∃ o', G (t + d) b = some o' := by
    intro d
    induction d with
    | zero => intro t b o h; exact ⟨o, h⟩
    | succ d ih =>
      intro t b o h
      obtain ⟨o', h'⟩ := ih t b o h
      exact mono (t + d) b o' h'
  have lt : ∀ r r', ok r = true → ok r' = true → ad r = ad r' → ¬ τ r < τ r' := fun r r' h h' e hl => by
    obtain ⟨o, ho⟩ := alive r h
    obtain ⟨o', ho'⟩ := later (τ r' - (τ r + 1)) (τ r + 1) (ad r) o ho
    have e2 : τ r + 1 + (τ r' - (τ r + 1)) = τ r' := by omega
    rw [e2, e, born r' h'] at ho'
    cases ho'
  intro r r' h h' e
  have h1 := lt r r' h h' e
  have h2 := lt r' r h' h e.symm
  exact same r r' h h' (by omega) e
def stampR : Rw → Nat
  | .pl => 0
  | .part _ => 0
  | .wd => 1
  | .sl => 2
  | .seat _ => 2
  | .fl => 3
  | .md => 4
  | .mask _ => 5
  | .tl => 6
  | .slot _ => 6
def adW (p : Addr) (as : List Addr) (DS : Addr) (asS : List Addr) (F wd mk md DT : Addr) (asT : List Addr) : Rw → Addr
  | .pl => p
  | .part i => as.getD i 0
  | .sl => DS
  | .seat i => asS.getD i 0
  | .fl => F
  | .wd => wd
  | .mask _ => mk
  | .md => md
  | .tl => DT
  | .slot i => asT.getD i 0
def WS0 (nse many : Nat) (ln : Nat → Nat) (pr : Nat → Nat → Int) : WS :=
  { nse := nse, many := many, se := fun q e => some (pr (q % 2) e), fa := fun _ => none, ks := [0], wm := fun _ _ => true, so := fun _ _ => none, ln := ln, pr := pr }
theorem WS0.wf {nse many : Nat} {ln : Nat → Nat} {pr : Nat → Nat → Int} (P : PartsOK ln pr many) (h : nse ≤ 8) (hlo : ∀ r, ln r ≤ 400) : (WS0 nse many ln pr).WF := by
  have m0 := P.m0
  have m1 := P.m1
  have l2 := P.l2
  have l5 := P.l5
  have l6 := P.l6
  refine ⟨h, by show many ≤ 400; omega, by show [0].Nodup; simp, fun k hk => ?_, by show 0 ∈ [0]; simp, fun p e n hn => ?_, fun p e n hn => (by cases hn), P.kr, hlo, fun r hr => ?_, P.l0, P.l1, P.l3, P.l4⟩
  · have : k ∈ [0] := hk
    simp at this
    omega
  · have hn' : some (pr (p % 2) e) = some n := hn
    rw [← Option.some.inj hn']
    exact P.kr _ _
  · have h7 : r = 0 ∨ r = 1 ∨ r = 2 ∨ r = 3 ∨ r = 4 ∨ r = 5 ∨ r = 6 := by omega
    show 0 < ln r
    rcases h7 with rfl | rfl | rfl | rfl | rfl | rfl | rfl
    · rw [P.l0]; exact m0
    · rw [P.l1]; exact m0
    · exact P.l2.1
    · rw [P.l3]; exact m0
    · rw [P.l4]; exact m0
    · exact P.l5.1
    · exact P.l6.1
theorem WA.build {H0 H : Hp} {nse many : Nat} {ln : Nat → Nat} {pr : Nat → Nat → Int} (wf : (WS0 nse many ln pr).WF) {p DS F wd mk md DT : Addr} {as asS asT : List Addr} (G : Nat → Hp) (mono : ∀ t b o, G t b = some o → ∃ o', G (t + 1) b = some o')
    (b0 : G 0 p = none) (c0 : ∃ o, G 1 p = some o) (b0' : ∀ a ∈ as, G 0 a = none) (c0' : ∀ a ∈ as, ∃ o, G 1 a = some o) (nd0 : as.Nodup) (n0 : p ∉ as) (ln0 : as.length = 7)
    (b1 : G 2 DS = none) (c1 : ∃ o, G 3 DS = some o) (b1' : ∀ a ∈ asS, G 2 a = none) (c1' : ∀ a ∈ asS, ∃ o, G 3 a = some o) (nd1 : asS.Nodup) (n1 : DS ∉ asS) (ln1 : asS.length = nse)
    (b2 : G 3 F = none) (c2 : ∃ o, G 4 F = some o) (b3 : G 1 wd = none) (c3 : ∃ o, G 2 wd = some o) (b4 : G 5 mk = none) (c4 : ∃ o, G 6 mk = some o) (b5 : G 4 md = none) (c5 : ∃ o, G 5 md = some o)
    (b6 : G 6 DT = none) (c6 : ∃ o, G 7 DT = some o) (b6' : ∀ a ∈ asT, G 6 a = none) (c6' : ∀ a ∈ asT, ∃ o, G 7 a = some o) (nd6 : asT.Nodup) (n6 : DT ∉ asT) (ln6 : asT.length = 60)
    (s0 : ∀ b o, H0 b = some o → ∃ o', G 0 b = some o') (sm : ∀ b o, H0 b = some o → H b = some o)
    (f0 : H p = some (.lst (as.map V.ref))) (f0' : ∀ (r : Nat) (a : Addr), as[r]? = some a → H a = some (.lst ((List.range (ln r)).map fun i => V.int (pr r i)))) (f1 : H DS = some (.lst (asS.map V.ref))) (f1' : ∀ (q : Nat) (a : Addr), asS[q]? = some a → H a = some (.lst ((List.range many).map fun e => V.int (pr (q % 2) e))))
    (f2 : H F = some (.lst ((List.range many).map fun _ => V.non))) (f3 : H wd = some (.dK [(.inr "seats", .ref DS), (.inr "faults", .ref F), (.inr "masks", .ref md), (.inr "slots", .ref DT)])) (f4 : H mk = some (.lst ((List.range many).map fun _ => V.bl true))) (f5 : H md = some (.dK [(.inl 0, .ref mk)]))
    (f6 : H DT = some (.lst (asT.map V.ref))) (f6' : ∀ (q : Nat) (a : Addr), asT[q]? = some a → H a = some (.lst ((List.range many).map fun _ => V.non))) :
    WA H0 (adW p as DS asS F wd mk md DT asT) (WS0 nse many ln pr) H := by
  have dk : ∀ {i : Nat}, (WS0 nse many ln pr).rok (.mask i) = true → i = 0 := fun {i} h => by
    have := of_decide_eq_true (p := i ∈ [0]) h
    simpa using this
  have bn : ∀ r, (WS0 nse many ln pr).rok r = true → G (stampR r) (adW p as DS asS F wd mk md DT asT r) = none := fun r hr => by
    cases r with
    | pl => exact b0
    | part i => exact b0' _ (getD_mem (by rw [ln0]; exact of_decide_eq_true hr))
    | sl => exact b1
    | seat i => exact b1' _ (getD_mem (by rw [ln1]; exact of_decide_eq_true hr))
    | fl => exact b2
    | wd => exact b3
    | mask i => exact b4
    | md => exact b5
    | tl => exact b6
    | slot i => exact b6' _ (getD_mem (by rw [ln6]; exact of_decide_eq_true hr))
  refine ⟨wf, inj_ofR stampR G bn ?_ mono ?_, fun r hr => ?_, fun r hr => ?_, sm⟩
  · intro r hr
    cases r with
    | pl => exact c0
    | part i => exact c0' _ (getD_mem (by rw [ln0]; exact of_decide_eq_true hr))
    | sl => exact c1
    | seat i => exact c1' _ (getD_mem (by rw [ln1]; exact of_decide_eq_true hr))
    | fl => exact c2
    | wd => exact c3
    | mask i => exact c4
    | md => exact c5
    | tl => exact c6
    | slot i => exact c6' _ (getD_mem (by rw [ln6]; exact of_decide_eq_true hr))
  · intro r r' hr hr' e1 e2
    cases r with
    | part i =>
      have hi : i < as.length := by rw [ln0]; exact of_decide_eq_true hr
      cases r' with
      | part j => rw [nd_get nd0 hi (by rw [ln0]; exact of_decide_eq_true hr') e2]
      | pl => exact (n0 (by rw [← show _ = p from e2]; exact getD_mem hi)).elim
      | _ => cases e1
    | pl =>
      cases r' with
      | part j => exact (n0 (by rw [show p = _ from e2]; exact getD_mem (by rw [ln0]; exact of_decide_eq_true hr'))).elim
      | pl => rfl
      | _ => cases e1
    | seat i =>
      have hi : i < asS.length := by rw [ln1]; exact of_decide_eq_true hr
      cases r' with
      | seat j => rw [nd_get nd1 hi (by rw [ln1]; exact of_decide_eq_true hr') e2]
      | sl => exact (n1 (by rw [← show _ = DS from e2]; exact getD_mem hi)).elim
      | _ => cases e1
    | sl =>
      cases r' with
      | seat j => exact (n1 (by rw [show DS = _ from e2]; exact getD_mem (by rw [ln1]; exact of_decide_eq_true hr'))).elim
      | sl => rfl
      | _ => cases e1
    | slot i =>
      have hi : i < asT.length := by rw [ln6]; exact of_decide_eq_true hr
      cases r' with
      | slot j => rw [nd_get nd6 hi (by rw [ln6]; exact of_decide_eq_true hr') e2]
      | tl => exact (n6 (by rw [← show _ = DT from e2]; exact getD_mem hi)).elim
      | _ => cases e1
    | tl =>
      cases r' with
      | slot j => exact (n6 (by rw [show DT = _ from e2]; exact getD_mem (by rw [ln6]; exact of_decide_eq_true hr'))).elim
      | tl => rfl
      | _ => cases e1
    | mask i =>
      cases r' with
      | mask j => rw [dk hr, dk hr']
      | _ => cases e1
    | _ => cases r' <;> first | rfl | (cases e1; done)
  · have later : ∀ d t b o, G t b = some o → ∃ o', G (t + d) b = some o' := by
      intro d
      induction d with
      | zero => intro t b o h; exact ⟨o, h⟩
      | succ d ih =>
        intro t b o h
        obtain ⟨o', h'⟩ := ih t b o h
        exact mono (t + d) b o' h'
    cases e : H0 (adW p as DS asS F wd mk md DT asT r) with
    | none => rfl
    | some o =>
      obtain ⟨o1, h1⟩ := s0 _ o e
      obtain ⟨o2, h2⟩ := later (stampR r) 0 _ o1 h1
      rw [Nat.zero_add, bn r hr] at h2
      cases h2
  · cases r with
    | pl => exact f0.trans (by rw [refs_range ln0]; rfl)
    | part i =>
      have hi : i < as.length := by rw [ln0]; exact of_decide_eq_true hr
      exact f0' i _ (getD_get hi)
    | sl => exact f1.trans (by rw [refs_range ln1]; rfl)
    | seat i =>
      have hi : i < asS.length := by rw [ln1]; exact of_decide_eq_true hr
      exact f1' i _ (getD_get hi)
    | fl => exact f2
    | wd => exact f3
    | mask i =>
      have := dk hr
      subst this
      exact f4
    | md => exact f5
    | tl => exact f6.trans (by rw [refs_range ln6]; rfl)
    | slot i =>
      have hi : i < asT.length := by rw [ln6]; exact of_decide_eq_true hr
      exact f6' i _ (getD_get hi)
theorem ok_row7 {W : WS} {st : Stp} (h : W.ok st) : st.row7 := by
  cases st with
  | load p row m => exact Nat.lt_of_lt_of_le h.2.2 (by decide)
  | spread p row m => exact Nat.lt_of_lt_of_le h.2.2 (by decide)
  | shift p row b o m => exact Nat.lt_of_lt_of_le h.2.2.1 (by decide)
  | gather p q row m => exact Nat.lt_of_lt_of_le h.2.2.2 (by decide)
  | store row p m => exact (show row < 7 by have := h.2.2; omega)
  | put row q p m => exact (show row < 7 by have := h.2.2.2; omega)
  | fold row f p m => exact (show row < 7 by have := h.2.2.1; omega)
  | running row f p m => exact (show row < 7 by have := h.2.2.1; omega)
  | _ => trivial
theorem trim_pln : (Stp.trim).pln := fun v hv => by
  have h : v ∈ [V.str "trim"] := hv
  rw [List.mem_singleton.mp h]
  exact .inr ⟨_, rfl, by decide +kernel⟩
theorem runs_rp {W0 W : WS} {l : List Stp} (h : Runs W0 l W) : ∀ st ∈ l, st.row7 ∧ st.pln := by
  induction h with
  | nil => intro st hst; cases hst
  | snoc h g ih =>
    intro st hst
    rcases List.mem_append.mp hst with h1 | h1
    · exact ih st h1
    · rw [List.mem_singleton.mp h1]
      rcases g with rfl | ⟨ok, _, _⟩
      · exact ⟨trivial, trim_pln⟩
      · exact ⟨ok_row7 ok, ok_pln ok⟩
theorem load_rp (p : Nat) : (Stp.load p (p % 2) 0).row7 ∧ (Stp.load p (p % 2) 0).pln := by
  refine ⟨show p % 2 < 7 by omega, fun v hv => ?_⟩
  have h : v ∈ [V.str "load", .int (p : Int), .int ((p % 2 : Nat) : Int), .int ((0 : Nat) : Int)] := hv
  simp only [List.mem_cons, List.not_mem_nil, or_false] at h
  rcases h with rfl | rfl | rfl | rfl
  · exact .inr ⟨_, rfl, by decide +kernel⟩
  · exact .inl ⟨_, rfl⟩
  · exact .inl ⟨_, rfl⟩
  · exact .inl ⟨_, rfl⟩
theorem runs_app {W0 W W' : WS} {l l' : List Stp} (h : Runs W0 l W) (h' : Runs W l' W') : Runs W0 (l ++ l') W' := by
  induction h' with
  | nil => rw [List.append_nil]; exact h
  | snoc h2 g ih => rw [← List.append_assoc]; exact .snoc ih g
theorem ends_run {W W' : WS} {Rs Bs : List Stp} (h : EndsOK W Rs Bs W') : Runs W Rs W' ∧ Rs.getLast? = some .trim ∧ Rs.length ≤ 2 := by
  rcases h.1 with ⟨h1, h2⟩ | ⟨p, m, h1, ok, laid, h2⟩
  · subst h1 h2
    exact ⟨Runs.snoc (Runs.nil _) (.inl rfl), rfl, by decide⟩
  · subst h1 h2
    have r1 := Runs.snoc (Runs.nil W) (st := .reach p (W.ln 5 : Int) m) (.inr ⟨ok, laid, rfl⟩)
    exact ⟨Runs.snoc r1 (.inl rfl), rfl, by show 2 ≤ 2; decide⟩
end Rb
end

section
set_option Elab.async false
set_option linter.all false
set_option maxRecDepth 100000
set_option maxHeartbeats 4000000
namespace Rb
open PySem PySem.Spec PyProof.Rows L2
theorem made_wf {t g lanes many : Nat} {ln : Nat → Nat} {pr : Nat → Nat → Int} (g3 : g = 1 ∨ g = 2 ∨ g = 4) (l1 : 1 ≤ lanes) (l2 : lanes ≤ 64) (P : PartsOK ln pr many) (hlo : ∀ r, ln r ≤ 400) : (MS.made g lanes (lenOf t ln) (fun k i => pr (gr t k) i)).WF := by
  have hz : KR 0 := ⟨by decide, by decide⟩
  refine ⟨g3, l1, l2, by show (lenOf t ln).length = 7; unfold lenOf; rw [List.length_map, List.length_range], fun r n h => ?_, fun _ _ => hz, fun _ _ => hz, fun p j => P.kr _ _, fun c h => (by cases h), Nat.zero_le _, Nat.le_refl _, Nat.zero_le _, Nat.zero_le _, fun c h => (by cases h), Nat.zero_le _⟩
  have h' : (lenOf t ln)[r]? = some n := h
  unfold lenOf at h'
  rw [List.getElem?_map] at h'
  cases hr : (List.range 7)[r]? with
  | none => rw [hr] at h'; cases h'
  | some k => rw [hr] at h'; cases h'; exact hlo _
/-- an effect reads and writes its own row alone -/
theorem dueL_cong {W W' : WS} {st : Stp} (hd : st.due = true) (hn : ∀ q e, W'.num q e = W.num q e) : ∀ (es : List Nat) (s s' : (Nat → Nat → Int) × Option Int), s'.1 st.erow = s.1 st.erow → s'.2 = s.2 → (es.foldl (W'.dueS st) s').1 st.erow = (es.foldl (W.dueS st) s).1 st.erow
  | [], s, s', h, _ => h
  | e :: es, s, s', h, h2 => by
    rw [List.foldl_cons, List.foldl_cons]
    have key : ∀ (row a : Nat) (v : Int), row = st.erow → upd2 s'.1 row a v row = upd2 s.1 row a v row := fun row a v hr => by
      funext x
      unfold upd2
      by_cases c : x = a
      · rw [if_pos ⟨rfl, c⟩, if_pos ⟨rfl, c⟩]
      · rw [if_neg (fun z => c z.2), if_neg (fun z => c z.2), hr, h]
    refine dueL_cong hd hn es _ _ ?_ ?_
    · cases st with
      | store row p md =>
        show upd2 s'.1 row e (W'.num p e) row = upd2 s.1 row e (W.num p e) row
        rw [hn]
        exact key row e _ rfl
      | put row q p md =>
        show upd2 s'.1 row (W'.num q e).toNat (W'.num p e) row = upd2 s.1 row (W.num q e).toNat (W.num p e) row
        rw [hn, hn]
        exact key row _ _ rfl
      | fold row f p md =>
        show upd2 s'.1 row 0 (jn f (s'.1 row 0) (W'.num p e)) row = upd2 s.1 row 0 (jn f (s.1 row 0) (W.num p e)) row
        have h0 : s'.1 row 0 = s.1 row 0 := congrFun h 0
        rw [hn, h0]
        exact key row 0 _ rfl
      | running row f p md =>
        show (match s'.2 with
          | none => (upd2 s'.1 row e (W'.num p e), some (W'.num p e))
          | some c => (upd2 s'.1 row e (jn f c (W'.num p e)), some (jn f c (W'.num p e)))).1 row = (match s.2 with
          | none => (upd2 s.1 row e (W.num p e), some (W.num p e))
          | some c => (upd2 s.1 row e (jn f c (W.num p e)), some (jn f c (W.num p e)))).1 row
        rw [h2, hn]
        cases s.2 <;> exact key row e _ rfl
      | _ => cases hd
    · cases st with
      | running row f p md =>
        show (match s'.2 with
          | none => (upd2 s'.1 row e (W'.num p e), some (W'.num p e))
          | some c => (upd2 s'.1 row e (jn f c (W'.num p e)), some (jn f c (W'.num p e)))).2 = (match s.2 with
          | none => (upd2 s.1 row e (W.num p e), some (W.num p e))
          | some c => (upd2 s.1 row e (jn f c (W.num p e)), some (jn f c (W.num p e)))).2
        rw [h2, hn]
        cases s.2 <;> rfl
      | _ => first | exact h2 | cases hd
/-- the rows behind the effects of a list -/
def dueAll (W : WS) (last : Nat) : List Stp → (Nat → Nat → Int)
  | l => l.foldl (fun f st => ({ W with pr := f } : WS).due last st) W.pr
theorem due_row {W : WS} {f : Nat → Nat → Int} {last : Nat} {st : Stp} (hd : st.due = true) : (f st.erow = W.pr st.erow → ({ W with pr := f } : WS).due last st st.erow = W.due last st st.erow) ∧ ∀ r, r ≠ st.erow → ({ W with pr := f } : WS).due last st r = f r := by
  have e1 : ({ W with pr := f } : WS).actL st.mask = W.actL st.mask := rfl
  constructor
  · intro h
    unfold WS.due WS.dueL
    rw [e1]
    exact dueL_cong hd (fun _ _ => rfl) _ _ _ h rfl
  · intro r hr
    unfold WS.due WS.dueL
    exact dueL_own hd _ _ r hr
theorem due_fold {W : WS} {last : Nat} : ∀ (l : List Stp) (f : Nat → Nat → Int), (∀ st ∈ l, st.due = true) → (l.map Stp.erow).Nodup → (∀ st ∈ l, f st.erow = W.pr st.erow) →
    (∀ st ∈ l, (l.foldl (fun f st => ({ W with pr := f } : WS).due last st) f) st.erow = W.due last st st.erow) ∧ ∀ r, (∀ st ∈ l, st.erow ≠ r) → (l.foldl (fun f st => ({ W with pr := f } : WS).due last st) f) r = f r
  | [], f, _, _, _ => ⟨fun st h => (by cases h), fun r _ => rfl⟩
  | st :: l, f, hd, nd, hf => by
    rw [List.map_cons] at nd
    have nd2 := List.nodup_cons.mp nd
    have hne : ∀ st2 ∈ l, st2.erow ≠ st.erow := fun st2 h2 z => nd2.1 (by rw [← z]; exact List.mem_map.mpr ⟨st2, h2, rfl⟩)
    obtain ⟨k1, k2⟩ := due_row (W := W) (f := f) (last := last) (hd st List.mem_cons_self)
    obtain ⟨h1, h2⟩ := due_fold l (({ W with pr := f } : WS).due last st) (fun s hs => hd s (List.mem_cons_of_mem _ hs)) nd2.2 (fun s hs => by rw [k2 _ (hne s hs)]; exact hf s (List.mem_cons_of_mem _ hs))
    refine ⟨fun s hs => ?_, fun r hr => ?_⟩
    · rcases List.mem_cons.mp hs with rfl | hs
      · rw [List.foldl_cons, h2 _ (fun s2 hs2 => hne s2 hs2)]
        exact k1 (hf _ List.mem_cons_self)
      · rw [List.foldl_cons]
        exact h1 s hs
    · rw [List.foldl_cons, h2 r (fun s hs => hr s (List.mem_cons_of_mem _ hs)), k2 r (fun z => hr st List.mem_cons_self z.symm)]
end Rb
end

section
set_option Elab.async false
set_option linter.all false
set_option maxRecDepth 100000
set_option maxHeartbeats 4000000
namespace Rb
open PySem PySem.Spec PyProof.Rows L2

theorem PSs.pre {X : Cx} {st : List Stmt} {t t' : TS} (h : PSs X st t) (hp : ∀ D σ H, t' D σ H → t D σ H) : PSs X st t' := ⟨fun pins s σ H D I q => h.run pins s σ H D I (hp D σ H q)⟩
/-- what stands before the plays: all but the world stands in the base -/
structure EndPre (K : PySem.W.Frag) (Hb H : Hp) (ad : Rw → Addr) (ns : List Int) (many g0 g1 la0 la1 nse tu : Nat) (nI : Int) (ln : Nat → Nat) (pr : Nat → Nat → Int) (W0 W2 : WS) (body : List Stp) (Bk bs : List (Addr × Stp)) (asH : List Addr) (a ll lg DE bo DH : Addr) : Prop where
  wa : WA Hb ad W2 H
  hS : SqL K Hb a (ns.map V.int)
  hll : Hb ll = some (.lst [.int (la0 : Int), .int (la1 : Int)])
  hlg : Hb lg = some (.lst [.int (g0 : Int), .int (g1 : Int)])
  la0b : 1 ≤ la0 ∧ la0 ≤ 64
  la1b : 1 ≤ la1 ∧ la1 ≤ 64
  hDE : Hb DE = some (.lst (Bk.map fun q => V.ref q.1))
  hBk : ∀ q ∈ Bk, Hb q.1 = some (.tup q.2.vals)
  hbo : Hb bo = some (.lst (bs.map fun q => V.ref q.1))
  hbs : ∀ q ∈ bs, Hb q.1 = some (.tup q.2.vals)
  hpln : ∀ q ∈ bs, q.2.pln
  hbl : bs.length ≤ 900
  hDH : Hb DH = some (.lst (asH.map V.ref))
  hal : asH.length = 7
  hAH : ∀ (k : Nat) (x : Addr), asH[k]? = some x → Hb x = some (.lst ((List.range (ln (gr tu k))).map fun i => V.int (pr (gr tu k) i)))
  hbm : bs.map (·.2) = codeOf tu nse body (Bk.map (·.2)) nI
  set0 : Setup tu nse many g0 la0 ln pr W0 W2 body (Bk.map (·.2))
  set1 : Setup tu nse many g1 la1 ln pr W0 W2 body (Bk.map (·.2))
  hlo : ∀ r, ln r ≤ 400
theorem EndPre.up {K : PySem.W.Frag} {Hb H : Hp} {ad : Rw → Addr} {ns : List Int} {many g0 g1 la0 la1 nse tu : Nat} {nI : Int} {ln : Nat → Nat} {pr : Nat → Nat → Int} {W0 W2 : WS} {body : List Stp} {Bk bs : List (Addr × Stp)} {asH : List Addr} {a ll lg DE bo DH : Addr} (P : EndPre K Hb H ad ns many g0 g1 la0 la1 nse tu nI ln pr W0 W2 body Bk bs asH a ll lg DE bo DH) {H' : Hp} (s : Same H H') : Same Hb (offW ad W2 H') := fun b o e => by
  have A := P.wa
  exact off_keep (A.fresh e) (s _ _ (A.same _ _ e))
theorem EndPre.re {K : PySem.W.Frag} {Hb H : Hp} {ad : Rw → Addr} {ns : List Int} {many g0 g1 la0 la1 nse tu : Nat} {nI : Int} {ln : Nat → Nat} {pr : Nat → Nat → Int} {W0 W2 : WS} {body : List Stp} {Bk bs : List (Addr × Stp)} {asH : List Addr} {a ll lg DE bo DH : Addr} (P : EndPre K Hb H ad ns many g0 g1 la0 la1 nse tu nI ln pr W0 W2 body Bk bs asH a ll lg DE bo DH) {H' : Hp} (s : Same H H') : EndPre K (offW ad W2 H') H' ad ns many g0 g1 la0 la1 nse tu nI ln pr W0 W2 body Bk bs asH a ll lg DE bo DH := by
  have u := P.up s
  exact ⟨(P.wa.sm s).rebase, u.seq P.hS, u _ _ P.hll, u _ _ P.hlg, P.la0b, P.la1b, u _ _ P.hDE, fun q hq => u _ _ (P.hBk q hq), u _ _ P.hbo, fun q hq => u _ _ (P.hbs q hq), P.hpln, P.hbl, u _ _ P.hDH, P.hal, fun k x h => u _ _ (P.hAH k x h), P.hbm, P.set0, P.set1, P.hlo⟩
/-- the least faulted element and the refusal due -/
def LeastOK (many : Nat) (W2 : WS) (nI : Int) (l : Nat) (ref : Option (Int × Int × Str)) : Prop := l ≤ many ∧ (∀ e, e < l → W2.fa e = none) ∧ ((l = many ∧ ref = none) ∨ (l < many ∧ ∃ f, W2.fa l = some f ∧ ref = some (nI, (l : Int), f)))
theorem flat_to {rc rc' : Nat → Nat → Int} : ∀ (len : List Nat) (r0 : Nat), (∀ r i, r0 ≤ r → r < r0 + len.length → rc r i = rc' r i) → flat len r0 rc = flat len r0 rc'
  | [], _, _ => rfl
  | n :: ns, r0, h => by
    show (List.range n).map (rc r0) ++ flat ns (r0 + 1) rc = (List.range n).map (rc' r0) ++ flat ns (r0 + 1) rc'
    rw [flat_to ns (r0 + 1) fun r i h1 h2 => h r i (by omega) (by rw [List.length_cons]; omega)]
    congr 1
    exact List.map_congr_left fun i _ => h r0 i (Nat.le_refl _) (by rw [List.length_cons]; omega)
theorem fin_eq {t nse many g lanes : Nat} {ln : Nat → Nat} {pr : Nat → Nat → Int} {W0 W2 : WS} {body B : List Stp} {nI : Int} {m : MS} {ref ref2 : Option (Int × Int × Str)} {l : Nat} (U : Setup t nse many g lanes ln pr W0 W2 body B) (F : Fin t many ln pr W2 B nI m ref2) (L : LeastOK many W2 nI l ref) : ref2 = ref ∧ flat m.len 0 m.rc = flat (lenOf t ln) 0 (fun k i => (B.foldl (fun f st => ({ W2 with pr := f } : WS).due l st) W2.pr) (gr t k) i) := by
  obtain ⟨kn, kl, kp, km⟩ := U.keep
  obtain ⟨f1, a, f2, f3, f4, f5, f6⟩ := F
  obtain ⟨g1, g2, g3⟩ := L
  have e : a = l := by
    by_cases c1 : a < l
    · exfalso
      rcases f4 with ⟨h, _⟩ | ⟨_, f, h, _⟩
      · omega
      · rw [g2 a c1] at h; cases h
    · by_cases c2 : l < a
      · exfalso
        rcases g3 with ⟨h, _⟩ | ⟨_, f, h, _⟩
        · omega
        · rw [f3 l c2] at h; cases h
      · omega
  subst e
  refine ⟨?_, ?_⟩
  · rcases f4 with ⟨h1, h2⟩ | ⟨h1, f, h2, h3⟩
    · rcases g3 with ⟨_, h5⟩ | ⟨h4, _⟩
      · rw [h2, h5]
      · omega
    · rcases g3 with ⟨h4, _⟩ | ⟨_, f', h5, h6⟩
      · omega
      · rw [h2] at h5
        rw [h3, h6, Option.some.inj h5]
  · rw [f1]
    refine flat_to _ _ fun k i _ hk => ?_
    have hk7 : k < 7 := by
      unfold lenOf at hk
      rw [List.length_map, List.length_range] at hk
      omega
    obtain ⟨d1, d2⟩ := due_fold (W := W2) (last := a) B W2.pr (fun st h => (U.Bok st h).2.2) U.Bnd (fun _ _ => rfl)
    have hg7 : gr t k < 7 := gr7
    by_cases c : ∃ st ∈ B, st.erow = gr t k
    · obtain ⟨st, h1, h2⟩ := c
      have h3 := f5 st h1 i
      rw [h2, fr_gr U.t7 hk7] at h3
      rw [h3, ← h2, d1 st h1, due_stt (by omega)]
    · have h0 : ∀ st ∈ B, st.erow ≠ gr t k := fun st h z => c ⟨st, h, z⟩
      have h3 := f6 (gr t k) hg7 h0 i
      rw [fr_gr U.t7 hk7] at h3
      rw [h3, d2 _ h0, kp]
def ts_law_play (K : PySem.W.Frag) : TS := fun D σ H => ∃ (Hb : Hp) (ad : Rw → Addr) (ns : List Int) (many g0 g1 la0 la1 nse tu : Nat) (nI : Int) (ln : Nat → Nat) (pr : Nat → Nat → Int) (W0 W2 : WS) (body : List Stp) (Bk bs : List (Addr × Stp)) (asH : List Addr) (a ll lg DE bo DH : Addr) (v3 v5 v8 v9 v10 v12 v15 v23 : Option V) (l : Nat) (vr : V) (ref : Option (Int × Int × Str)), EndPre K Hb H ad ns many g0 g1 la0 la1 nse tu nI ln pr W0 W2 body Bk bs asH a ll lg DE bo DH ∧
  LeastOK many W2 nI l ref ∧ RefV Hb vr ref ∧
  σ = [some (.ref a), some (.ref (ad .pl)), some (.ref ll), v3, some (.ref lg), v5, some (.int (many : Int)), some (.ref (ad .wd)), v8, v9, v10, some (.ref DE), v12, some (.int nI), some (.int (tu : Int)), v15, some (.ref bo), some (.ref DH), some (.int (l : Int)), some vr, none, none, none, v23, none] ∧ ∀ H', D.rt (.bl true) H'
theorem law_play {P : Program} {w : World} {K : PySem.W.Frag} {mg : Str → Option Value} {base : Heap} (T : Txt w K mg) {cdv : Value} {A : Around} {outer : List Env} {s : Shared} {H : Hp} {E : XK} (hr : Room 12 (A.deeper (envOfC "law" (defScope s_law) s.heap.objs.size (ad_law K) cdv))) (hu : (A.deeper (envOfC "law" (defScope s_law) s.heap.objs.size (ad_law K) cdv)).units + 1 < cLine) (nd : (["_law_script", "_law_parts_here", "_law_lanes_here", "_law_shift", "_law_groups", "_law_seats", "_law_many", "_law_world", "_law_k", "_law_steps_here", "_law_ends", "_law_effects_here", "_law_step_here", "_law_n", "_law_turn", "_law_rows", "_law_body", "_law_handed", "_law_least", "_law_refusal", "_law_due_here", "_law_picks", "_law_told_here", "_law_j", "_law_p"] : List Str).Nodup) : PSs (cxOf CX0 P w K mg base ["_law_script", "_law_parts_here", "_law_lanes_here", "_law_shift", "_law_groups", "_law_seats", "_law_many", "_law_world", "_law_k", "_law_steps_here", "_law_ends", "_law_effects_here", "_law_step_here", "_law_n", "_law_turn", "_law_rows", "_law_body", "_law_handed", "_law_least", "_law_refusal", "_law_due_here", "_law_picks", "_law_told_here", "_law_j", "_law_p"] "law" (defScope s_law) (ad_law K) cdv A outer s H E).nox ((defBody s_law).drop 21) (ts_law_play K) := by
  have C__law_alike3 := cal__law_alike3 (P := P) (base := base) T
  have C__law_told := cal__law_told (P := P) (base := base) T
  have C__law_dust := cal__law_dust (P := P) (base := base) T
  have C__law_cell_at := cal__law_cell_at (P := P) (base := base) T
  have C__law_due := cal__law_due (P := P) (base := base) T
  refine PSs.pre ((pss_cons (ps_for PassesOwn.never rfl (pi_list (pv 11)) (pg_name (i := 12) nd rfl (Or.inl rfl))
      (pss_one (ps_expr (pe_cl C__law_due (hr.mono (by decide)) (pa_cons (pv 7) (pa_cons (pv 12) (pa_cons (pv 1) (pa_cons (pv 18) pa_nil))))))))
      (pss_cons (ps_set (i := 20) nd rfl (Or.inl rfl) (pe_lst pa_nil))
      (pss_cons (ps_for PassesOwn.never rfl (pi_range1 rfl T.b_range (pa_cons pe_int pa_nil)) (pg_name (i := 8) nd rfl (Or.inl rfl))
      (pss_one (ps_expr (pe_bm PySem.F.plainAttrs_list PySem.F.slot_list_extend PySem.F.type_list_extend mt_extend (pv 20) (pa_cons (pe_ix ix_list (pv 1) (pe_op op_mod (pe_op op_add (pv 8) (pv 14)) pe_int) (fun _ _ => rfl)) pa_nil)))))
      (pss_cons (ps_for PassesOwn.never rfl (pi_range1 rfl T.b_range (pa_cons pe_int pa_nil)) (pg_name (i := 8) nd rfl (Or.inl rfl))
      (pss_cons (ps_setLc (i := 21) (own := [("_law_j", 23)]) (g := gName 23) rfl nd rfl rfl (sw_true rfl rfl rfl (by decide +kernel)) (pi_range1 rfl T.b_range (pa_cons (pe_op op_mul pe_int (pv 8)) pa_nil)) (blkOk_by (N := ["_law_script", "_law_parts_here", "_law_lanes_here", "_law_shift", "_law_groups", "_law_seats", "_law_many", "_law_world", "_law_k", "_law_steps_here", "_law_ends", "_law_effects_here", "_law_step_here", "_law_n", "_law_turn", "_law_rows", "_law_body", "_law_handed", "_law_least", "_law_refusal", "_law_due_here", "_law_picks", "_law_told_here", "_law_j", "_law_p"]) (sc := defScope s_law) (by decide +kernel)) (fun _ _ _ _ _ => pg_name (i := 23) nd rfl (Or.inl rfl)) (fun _ _ _ _ _ => pts_nil) (fun _ _ _ _ _ => (pe_op op_mod (pe_cl C__law_cell_at (hr.mono (by decide)) (pa_cons (pv 0) (pa_cons (pe_op op_add pe_int (pv 23)) pa_nil))) (pe_op op_pow pe_int pe_int))))
      (pss_cons (ps_set (i := 22) nd rfl (Or.inl rfl) (pe_cl C__law_told (hr.mono (by decide)) (pa_cons (pv 16) (pa_cons (pe_tup (pa_cons (pv 6) (pa_cons (pe_ix ix_list (pv 4) (pv 8) (fun _ _ => rfl)) pa_nil))) (pa_cons (pv 17) (pa_cons (pe_ix ix_list (pv 2) (pv 8) (fun _ _ => rfl)) (pa_cons (pe_cl C__law_dust (hr.mono (by decide)) (pa_cons (pv 0) (pa_cons (pe_op op_add pe_int (pv 8)) (pa_cons pe_int pa_nil)))) (pa_cons (pv 21) pa_nil))))))))
      (pss_one (ps_if (pt_not (pt_val (pe_cl C__law_alike3 (hr.mono (by decide)) (pa_cons (pv 22) (pa_cons (pe_tup (pa_cons (pv 20) (pa_cons (pv 19) pa_nil))) pa_nil)))))
      (pss_one (ps_ret pe_bl))
      pss_nil)))))
      (pss_one (ps_ret pe_bl))))))) (fun D σ H h => ?_)
  obtain ⟨Hb, ad, ns, many, g0, g1, la0, la1, nse, tu, nI, ln, pr, W0, W2, body, Bk, bs, asH, a, ll, lg, DE, bo, DH, v3, v5, v8, v9, v10, v12, v15, v23, l, vr, ref, Pz, Lz, Rz, rfl, kQ⟩ := h
  have A := Pz.wa
  obtain ⟨kn, kl, kp, km⟩ := Setup.keep Pz.set0
  have hP := Pz.set0.P
  have DEc := Pz.hDE
  have mB : ∀ q ∈ Bk, q.2 ∈ Bk.map (·.2) := fun q hq => List.mem_map.mpr ⟨q, hq, rfl⟩
  -- due
  refine ⟨_, rfl, DE, rfl, ⟨_, SqL.of (A.same _ _ DEc)⟩, for_list (K := K) (a := DE) (xs := Bk.map fun q => V.ref q.1) (fun i σ H' => ∃ (v12 : Option V), σ = [some (.ref a), some (.ref (ad .pl)), some (.ref ll), v3, some (.ref lg), v5, some (.int (many : Int)), some (.ref (ad .wd)), v8, v9, v10, some (.ref DE), v12, some (.int nI), some (.int (tu : Int)), v15, some (.ref bo), some (.ref DH), some (.int (l : Int)), some vr, none, none, none, v23, none] ∧ WA Hb ad { W2 with pr := ((Bk.take i).map (·.2)).foldl (fun f st => ({ W2 with pr := f } : WS).due l st) W2.pr } H') ⟨v12, rfl, A⟩ (fun i σ H' _ ⟨_, _, A'⟩ => SqL.of (A'.same _ _ DEc)) ?_ ?_⟩
  · rintro i y σ H' hi ⟨v12, rfl, A'⟩
    obtain ⟨q, hq, rfl⟩ : ∃ q, Bk[i]? = some q ∧ y = .ref q.1 := by
      rw [List.getElem?_map] at hi
      cases hz : Bk[i]? with
      | none => rw [hz] at hi; cases hi
      | some z => rw [hz] at hi; cases hi; exact ⟨z, rfl, rfl⟩
    have hqB := List.mem_of_getElem? hq
    obtain ⟨ok, laid, hd⟩ := Pz.set0.Bok q.2 (mB q hqB)
    refine ⟨_, rfl, _, rfl, _, rfl, _, rfl, Hb, ad, _, q.1, q.2, l, 0, rfl, A', Pz.hBk q hqB, ok, fun e he => by rw [pr_rd]; exact laid e he, hd, fun row q2 p md hx e he _ => Pz.set0.Bput row q2 p md (by rw [← hx]; exact mB q hqB) e he, fun H3 A3 => ⟨_, rfl, ?_⟩⟩
    rw [take_snoc hq, List.map_append, List.foldl_append]
    exact A3
  rintro σ H1 ⟨v12, rfl, A1⟩
  rw [List.length_map, List.take_length] at A1
  generalize hFR : (Bk.map (·.2)).foldl (fun f st => ({ W2 with pr := f } : WS).due l st) W2.pr = FR at A1
  -- due cells
  refine ⟨nil_sz, fun du hdu => ?_⟩
  have duR := A1.new_off hdu
  have duH : Hb du = none := A1.same.free hdu
  have duc : upd H1 du (.lst []) du = some (.lst []) := upd_same
  have A2 := A1.wr (o := .lst []) duR duH
  generalize upd H1 du (.lst []) = H2 at duc A2 ⊢
  refine ⟨_, rfl, by decide, by decide, ?_⟩
  have ll7 : (lenOf tu ln).length = 7 := by unfold lenOf; rw [List.length_map, List.length_range]
  refine for_range (n := 7) (fun i σ H' => ∃ (v8 : Option V), σ = [some (.ref a), some (.ref (ad .pl)), some (.ref ll), v3, some (.ref lg), v5, some (.int (many : Int)), some (.ref (ad .wd)), v8, v9, v10, some (.ref DE), v12, some (.int nI), some (.int (tu : Int)), v15, some (.ref bo), some (.ref DH), some (.int (l : Int)), some vr, some (.ref du), none, none, v23, none] ∧ WA Hb ad { W2 with pr := FR } H' ∧ ∃ xs : List Int, H' du = some (.lst (xs.map V.int)) ∧ xs ++ flat ((lenOf tu ln).drop i) i (fun k i => FR (gr tu k) i) = flat (lenOf tu ln) 0 (fun k i => FR (gr tu k) i) ∧ xs.length ≤ 400 * i) ⟨v8, rfl, A2, [], duc, rfl, Nat.zero_le _⟩ ?_ ?_
  · rintro i σ H' hi ⟨v8, rfl, A', xs, hxs, hx1, hx2⟩
    have h7 : gr tu i < 7 := gr7
    have hpx := A'.at_ (.part (gr tu i)) (decide_eq_true h7)
    have hpx2 : H' (ad (.part (gr tu i))) = some (.lst (((List.range (ln (gr tu i))).map (FR (gr tu i))).map V.int)) := by
      rw [hpx]
      show some (HO.lst ((List.range (W2.ln (gr tu i))).map fun e => V.int (FR (gr tu i) e))) = _
      rw [kl, List.map_map]
      rfl
    have hn1 : (lenOf tu ln)[i]? = some (ln (gr tu i)) := by unfold lenOf; exact rm_get hi
    have e2 : (lenOf tu ln).drop i = ln (gr tu i) :: (lenOf tu ln).drop (i + 1) := by
      obtain ⟨hlt, hg⟩ := List.getElem?_eq_some_iff.mp hn1
      rw [List.drop_eq_getElem_cons hlt, hg]
    rw [e2] at hx1
    have hb := Pz.hlo (gr tu i)
    refine ⟨_, rfl, lty hxs, _, rfl, _, rfl, _, rfl, _, _, rfl, rfl, _, _, rfl, rfl, (by show (0 : Int) < 7; decide), _, _, _, _, rfl, rfl, A'.plL, atI_of (j := gr tu i) (by show ((0 : Int) + (i : Int) + (tu : Int)) % 7 = ((gr tu i : Nat) : Int); unfold gr; omega) (rm_get h7), du, _, _, _, rfl, rfl, hxs, hpx2, ?_, ?_⟩
    · rw [List.length_map, List.length_map, List.length_map, List.length_range]
      exact sz_le (by omega)
    refine ⟨_, rfl, A'.wr duR duH, xs ++ (List.range (ln (gr tu i))).map (FR (gr tu i)), by rw [upd_same, List.map_append], ?_, ?_⟩
    · rw [List.append_assoc]
      exact hx1
    · rw [List.length_append, List.length_map, List.length_range]
      omega
  rintro σ H3 ⟨v8, rfl, A3, xs, hxs, hx1, hx2⟩
  have e3 : xs = flat (lenOf tu ln) 0 (fun k i => FR (gr tu k) i) := by
    rw [← hx1, List.drop_eq_nil_of_le (by omega)]
    show xs = xs ++ []
    rw [List.append_nil]
  subst e3
  -- the two plays
  have hS3 : SqL K H3 a (ns.map V.int) := A3.same.seq Pz.hS
  have lenI : (flat (lenOf tu ln) 0 (fun k i => FR (gr tu k) i)).length ≤ 2800 := by omega
  refine ⟨_, rfl, by decide, by decide, ?_⟩
  refine for_range (n := 2) (fun i σ H' => ∃ (v8 v21 v22 v23 : Option V), σ = [some (.ref a), some (.ref (ad .pl)), some (.ref ll), v3, some (.ref lg), v5, some (.int (many : Int)), some (.ref (ad .wd)), v8, v9, v10, some (.ref DE), v12, some (.int nI), some (.int (tu : Int)), v15, some (.ref bo), some (.ref DH), some (.int (l : Int)), some vr, some (.ref du), v21, v22, v23, none] ∧ Same H3 H') ⟨v8, none, none, v23, rfl, Same.refl _⟩ ?_ ?_
  · rintro i σ H' hi ⟨v8, v21, v22, v23, rfl, s4⟩
    obtain ⟨g, la, eg, el, U, lb⟩ : ∃ g la : Nat, ([.int (g0 : Int), .int (g1 : Int)] : List V)[i]? = some (.int (g : Int)) ∧ ([.int (la0 : Int), .int (la1 : Int)] : List V)[i]? = some (.int (la : Int)) ∧ Setup tu nse many g la ln pr W0 W2 body (Bk.map (·.2)) ∧ True := by
      have h01 : i = 0 ∨ i = 1 := by omega
      rcases h01 with rfl | rfl
      · exact ⟨g0, la0, rfl, rfl, Pz.set0, trivial⟩
      · exact ⟨g1, la1, rfl, rfl, Pz.set1, trivial⟩
    have e0 : (0 : Int) + (i : Int) = (i : Int) := Int.zero_add _
    rw [e0]
    refine ⟨_, rfl, _, _, rfl, rfl, .inl ⟨by decide, by decide⟩, _, rfl, by show -2 ^ 62 ≤ (3 : Int) * (i : Int); omega, by show (3 : Int) * (i : Int) < 2 ^ 62; omega, fun DP hDP => ?_⟩
    refine comp_range hDP (n := 3 * i) (fun j => V.int (cAt ns (3 + j) % 1000000000000000000000000000000)) (by omega) (fun j H5 hj sx Q' q => ?_) (fun H5 s5 h5 => ?_)
    · refine ⟨_, rfl, _, rfl, _, _, rfl, rfl, a, ns, 3 + j, ?_, (s4.trans sx).seq hS3, _, _, rfl, rfl, ⟨by decide, by decide, by decide⟩, _, _, rfl, rfl, (by show (0 : Int) < 10 ^ 30; decide), q _ (Same.refl _)⟩
      show [V.ref a, V.int ((3 : Int) + (0 + (j : Int)))] ++ [] = [V.ref a, V.int ((3 + j : Nat) : Int)]
      rw [List.append_nil]
      congr 3
      push_cast
      omega
    have hLG := s5 _ _ (s4 _ _ (A3.same _ _ Pz.hlg))
    have hLL := s5 _ _ (s4 _ _ (A3.same _ _ Pz.hll))
    refine ⟨_, rfl, _, rfl, _, rfl, _, rfl, _, _, _, _, rfl, rfl, SqL.of hLG, atI_of rfl eg, two_sz, fun mp hmp => ?_⟩
    have hmpc : upd H5 mp (.tup [.int (many : Int), .int (g : Int)]) mp = some (.tup [.int (many : Int), .int (g : Int)]) := upd_same
    have ump : Same H5 (upd H5 mp (.tup [.int (many : Int), .int (g : Int)])) := same_new hmp
    generalize upd H5 mp (.tup [.int (many : Int), .int (g : Int)]) = H6 at hmpc ump ⊢
    have s36 := (s4.trans s5).trans ump
    refine ⟨_, rfl, _, rfl, _, rfl, _, _, _, _, rfl, rfl, SqL.of (ump _ _ hLL), atI_of rfl el, _, rfl, _, rfl, _, _, rfl, rfl, a, ns, 3 + i, 5, by show [V.ref a, V.int ((3 : Int) + (i : Int)), V.int 5] ++ [] = [V.ref a, V.int ((3 + i : Nat) : Int), V.int ((5 : Nat) : Int)]; push_cast; rfl, s36.seq hS3, by omega, by decide, fun da Hd hda sd hdc => ⟨_, rfl, ?_⟩⟩
    have s3d := s36.trans sd
    have up : ∀ {b : Addr} {o : HO}, Hb b = some o → Hd b = some o := fun e => s3d _ _ (A3.same _ _ e)
    have ldk : ∀ n ∈ ldust ns (3 + i) 5, KR n := fun n hn => by
      unfold ldust at hn
      obtain ⟨j, _, rfl⟩ := List.mem_map.mp hn
      exact lnum_kr _ _
    have ldl : (ldust ns (3 + i) 5).length ≤ 1000 := by
      have b := lsome_b ns (3 + i) 5 (many := 6) (by decide)
      unfold ldust
      rw [List.length_map, List.length_range]
      omega
    have h5' : Hd DP = some (.lst (((List.range (3 * i)).map fun j => cAt ns (3 + j) % 1000000000000000000000000000000).map V.int)) := by
      rw [List.map_map]
      exact sd _ _ (ump _ _ h5)
    have hplays := Setup.plays (n := nI) U
    rw [← Pz.hbm] at hplays
    have hwf := made_wf (t := tu) U.g3 U.l1 U.l2 hP Pz.hlo
    refine ⟨bo, mp, DH, da, DP, many, g, la, lenOf tu ln, fun k i => pr (gr tu k) i, ldust ns (3 + i) 5, _, asH, bs, rfl, Fin tu many ln pr W2 (Bk.map (·.2)) nI, up Pz.hbo, fun q hq => up (Pz.hbs q hq), Pz.hpln, Pz.hbl, sd _ _ hmpc, up Pz.hDH, Pz.hal, fun k x n hx hn => ?_, hdc, h5', hwf, ldk, ldl, by rw [List.length_map, List.length_range]; omega, fun n hn => ?_, hplays, fun m ref2 p q v H7 hF s7 hp7 hq7 hv7 => ?_⟩
    · unfold lenOf at hn
      rw [List.getElem?_map] at hn
      cases hr : (List.range 7)[k]? with
      | none => rw [hr] at hn; cases hn
      | some k2 =>
        rw [hr] at hn
        have hk7 : k < 7 := by
          have := (List.getElem?_eq_some_iff.mp hr).1
          rw [List.length_range] at this
          exact this
        rw [List.getElem?_range hk7] at hr
        have e5 := Option.some.inj hr
        subst e5
        have e6 : ln (gr tu k) = n := Option.some.inj hn
        rw [← e6]
        exact up (Pz.hAH k x hx)
    · unfold lenOf at hn
      obtain ⟨k, _, rfl⟩ := List.mem_map.mp hn
      exact Pz.hlo _
    obtain ⟨er, ef⟩ := fin_eq U hF Lz
    subst er
    rw [hFR] at ef
    rw [ef] at hq7
    have s37 : Same H3 H7 := s3d.trans s7
    have hdu7 := s37 _ _ hxs
    have hvr : RefV H7 vr ref2 := Rz.same (A3.same.trans s37)
    refine ⟨_, rfl, _, rfl, _, rfl, two_sz, fun tq htq => ?_⟩
    have htqc : upd H7 tq (.tup [.ref du, vr]) tq = some (.tup [.ref du, vr]) := upd_same
    have utq : Same H7 (upd H7 tq (.tup [.ref du, vr])) := same_new htq
    generalize upd H7 tq (.tup [.ref du, vr]) = H8 at htqc utq ⊢
    have aint : ∀ (xs : List Int) (j : Nat) (u v : V), (xs.map V.int)[j]? = some u → (xs.map V.int)[j]? = some v → AL 1 H8 u v := fun xs j u v hu hv => by
      rw [hu] at hv
      have e9 := Option.some.inj hv
      rw [List.getElem?_map] at hu
      cases hz : xs[j]? with
      | none => rw [hz] at hu; cases hu
      | some z =>
        rw [hz] at hu
        have e8 : V.int z = u := Option.some.inj hu
        exact .inl ⟨e9, .inr (.inr ⟨z, by rw [← e9, e8]⟩)⟩
    have alr : AL 2 H8 v vr := by
      cases ref2 with
      | none =>
        have h1 : v = .non := hv7
        have h2 : vr = .non := hvr
        exact .inl ⟨by rw [h1, h2], .inl h2⟩
      | some r =>
        obtain ⟨r1, r2, r3⟩ := r
        obtain ⟨z1, h1, h2⟩ := hv7
        obtain ⟨z2, h3, h4⟩ := hvr
        refine .inr (.inr ⟨z1, z2, _, _, h1, h3, utq _ _ h2, utq _ _ h4, rfl, fun j u v hu hv => ?_⟩)
        rw [hu] at hv
        have e9 := Option.some.inj hv
        have hm := List.mem_of_getElem? hu
        simp only [List.mem_cons, List.not_mem_nil, or_false] at hm
        refine .inl ⟨e9, ?_⟩
        rw [← e9]
        rcases hm with h | h | h
        · exact .inr (.inr ⟨_, h⟩)
        · exact .inr (.inr ⟨_, h⟩)
        · exact .inr (.inl ⟨_, h⟩)
    have al : AL 3 H8 (.ref p) (.ref tq) := by
      refine .inr (.inr ⟨p, tq, _, _, rfl, rfl, utq _ _ hp7, htqc, rfl, fun j u v2 hu hv => ?_⟩)
      match j, hu, hv with
      | 0, hu, hv =>
        have e1 : V.ref q = u := Option.some.inj hu
        have e2 : V.ref du = v2 := Option.some.inj hv
        rw [← e1, ← e2]
        exact .inr (.inl ⟨q, du, _, _, rfl, rfl, utq _ _ hq7, utq _ _ hdu7, rfl, fun j u v => aint _ j u v⟩)
      | 1, hu, hv =>
        have e1 : v = u := Option.some.inj hu
        have e2 : vr = v2 := Option.some.inj hv
        rw [← e1, ← e2]
        exact alr
      | n + 2, hu, hv => exact absurd hu (by simp)
    refine ⟨.ref p, .ref tq, rfl, al, fun H9 s9 => ⟨_, rfl, ?_⟩⟩
    exact ⟨_, _, _, _, rfl, (s37.trans utq).trans s9⟩
  · rintro σ H' ⟨v8, v21, v22, v23, rfl, s4⟩
    exact kQ H'
def ts_law_end (K : PySem.W.Frag) : TS := fun D σ H => ∃ (Hb : Hp) (ad : Rw → Addr) (ns : List Int) (many g0 g1 la0 la1 nse tu : Nat) (nI : Int) (ln : Nat → Nat) (pr : Nat → Nat → Int) (W0 W2 : WS) (body : List Stp) (Bk bs : List (Addr × Stp)) (asH : List Addr) (a ll lg DE bo DH : Addr) (v3 v5 v8 v9 v10 v12 v15 v23 : Option V), EndPre K Hb H ad ns many g0 g1 la0 la1 nse tu nI ln pr W0 W2 body Bk bs asH a ll lg DE bo DH ∧
  σ = [some (.ref a), some (.ref (ad .pl)), some (.ref ll), v3, some (.ref lg), v5, some (.int (many : Int)), some (.ref (ad .wd)), v8, v9, v10, some (.ref DE), v12, some (.int nI), some (.int (tu : Int)), v15, some (.ref bo), some (.ref DH), none, none, none, none, none, v23, none] ∧ ∀ H', D.rt (.bl true) H'
theorem law_end {P : Program} {w : World} {K : PySem.W.Frag} {mg : Str → Option Value} {base : Heap} (T : Txt w K mg) {cdv : Value} {A : Around} {outer : List Env} {s : Shared} {H : Hp} {E : XK} (hr : Room 12 (A.deeper (envOfC "law" (defScope s_law) s.heap.objs.size (ad_law K) cdv))) (hu : (A.deeper (envOfC "law" (defScope s_law) s.heap.objs.size (ad_law K) cdv)).units + 1 < cLine) (nd : (["_law_script", "_law_parts_here", "_law_lanes_here", "_law_shift", "_law_groups", "_law_seats", "_law_many", "_law_world", "_law_k", "_law_steps_here", "_law_ends", "_law_effects_here", "_law_step_here", "_law_n", "_law_turn", "_law_rows", "_law_body", "_law_handed", "_law_least", "_law_refusal", "_law_due_here", "_law_picks", "_law_told_here", "_law_j", "_law_p"] : List Str).Nodup) : PSs (cxOf CX0 P w K mg base ["_law_script", "_law_parts_here", "_law_lanes_here", "_law_shift", "_law_groups", "_law_seats", "_law_many", "_law_world", "_law_k", "_law_steps_here", "_law_ends", "_law_effects_here", "_law_step_here", "_law_n", "_law_turn", "_law_rows", "_law_body", "_law_handed", "_law_least", "_law_refusal", "_law_due_here", "_law_picks", "_law_told_here", "_law_j", "_law_p"] "law" (defScope s_law) (ad_law K) cdv A outer s H E).nox ((defBody s_law).drop 17) (ts_law_end K) := by
  refine PSs.pre ((pss_cons (ps_set (i := 18) nd rfl (Or.inl rfl) pe_int)
      (pss_cons (ps_while PassesOwn.never (PW.pt (pw_and (pt_cmpR op_lt (pv 18) (pv 6) (nomark _)) (pw_and1 (pt_cmpR op_isN (pe_ix ix_list (pe_dget hu (pv 7) pe_str (fun _ _ => rfl)) (pv 18) (fun _ _ => rfl)) pe_non (nomark _)))))
      (pss_one (ps_set (i := 18) nd rfl (Or.inl rfl) (pe_op op_add (pv 18) pe_int))))
      (pss_cons (ps_set (i := 19) nd rfl (Or.inl rfl) pe_non)
      (pss_cons (ps_if (pt_cmpR op_lt (pv 18) (pv 6) (nomark _))
      (pss_one (ps_set (i := 19) nd rfl (Or.inl rfl) (pe_tup (pa_cons (pv 13) (pa_cons (pv 18) (pa_cons (pe_ix ix_list (pe_dget hu (pv 7) pe_str (fun _ _ => rfl)) (pv 18) (fun _ _ => rfl)) pa_nil))))))
      pss_nil)
      (law_play T hr hu nd)))))) (fun D σ H h => ?_)
  obtain ⟨Hb, ad, ns, many, g0, g1, la0, la1, nse, tu, nI, ln, pr, W0, W2, body, Bk, bs, asH, a, ll, lg, DE, bo, DH, v3, v5, v8, v9, v10, v12, v15, v23, Pz, rfl, kQ⟩ := h
  have A := Pz.wa
  have km : W2.many = many := (Setup.keep Pz.set0).2.2.2
  -- least
  refine ⟨fun k σ H' => ∃ l : Nat, k = many - l ∧ l ≤ many ∧ (∀ e, e < l → W2.fa e = none) ∧ EndPre K Hb H' ad ns many g0 g1 la0 la1 nse tu nI ln pr W0 W2 body Bk bs asH a ll lg DE bo DH ∧ σ = [some (.ref a), some (.ref (ad .pl)), some (.ref ll), v3, some (.ref lg), v5, some (.int (many : Int)), some (.ref (ad .wd)), v8, v9, v10, some (.ref DE), v12, some (.int nI), some (.int (tu : Int)), v15, some (.ref bo), some (.ref DH), some (.int (l : Int)), none, none, none, none, v23, none], ⟨_, 0, rfl, Nat.zero_le _, fun e h => absurd h (Nat.not_lt_zero e), Pz, rfl⟩, ?_⟩
  clear Pz A
  rintro k σ H' ⟨l, rfl, hl, hun, Pz, rfl⟩
  have A := Pz.wa
  refine ⟨_, rfl, _, rfl, _, _, rfl, rfl, _, rfl, iteD (fun c1 => ?_) (fun c1 => ?_)⟩
  · have hl' : l < many := by
      have c1' : (l : Int) < (many : Int) := c1
      omega
    refine ⟨_, rfl, _, _, rfl, A.d2, _, rfl, _, _, _, _, rfl, rfl, A.flL, atI_of rfl (rm_get (by rw [km]; exact hl')), rfl, _, rfl, ?_⟩
    cases hf : W2.fa l with
    | none =>
      refine ⟨fun σ' H'' => ∃ k', k' < many - l ∧ ∃ l : Nat, k' = many - l ∧ l ≤ many ∧ (∀ e, e < l → W2.fa e = none) ∧ EndPre K Hb H'' ad ns many g0 g1 la0 la1 nse tu nI ln pr W0 W2 body Bk bs asH a ll lg DE bo DH ∧ σ' = [some (.ref a), some (.ref (ad .pl)), some (.ref ll), v3, some (.ref lg), v5, some (.int (many : Int)), some (.ref (ad .wd)), v8, v9, v10, some (.ref DE), v12, some (.int nI), some (.int (tu : Int)), v15, some (.ref bo), some (.ref DH), some (.int (l : Int)), none, none, none, none, v23, none], fun σ' H'' h => h, ?_⟩
      exact ⟨_, rfl, _, _, rfl, rfl, many - (l + 1), by omega, l + 1, rfl, by omega, fun e he => by
        by_cases d : e = l
        · rw [d]; exact hf
        · exact hun e (by omega), Pz, by push_cast; rfl⟩
    | some f =>
      refine ⟨_, rfl, _, rfl, _, _, rfl, rfl, _, rfl, iteDT c1 ?_⟩
      refine ⟨_, rfl, _, rfl, _, rfl, _, _, rfl, A.d2, _, rfl, _, _, _, _, rfl, rfl, A.flL, atI_of rfl (rm_get (by rw [km]; exact hl')), small_sz (by simp), fun x hx => ?_⟩
      rw [hf]
      refine ⟨_, ad, ns, many, g0, g1, la0, la1, nse, tu, nI, ln, pr, W0, W2, body, Bk, bs, asH, a, ll, lg, DE, bo, DH, v3, v5, v8, v9, v10, v12, v15, v23, l, .ref x, some (nI, (l : Int), f), Pz.re (same_new hx), ⟨hl, hun, .inr ⟨hl', f, hf, rfl⟩⟩, ⟨x, rfl, off_keep (A.new_off hx) upd_same⟩, rfl, kQ⟩
  · have hl' : l = many := by
      have c1' : ¬ (l : Int) < (many : Int) := c1
      omega
    refine ⟨_, rfl, _, rfl, _, _, rfl, rfl, _, rfl, iteDF c1 ?_⟩
    exact ⟨_, ad, ns, many, g0, g1, la0, la1, nse, tu, nI, ln, pr, W0, W2, body, Bk, bs, asH, a, ll, lg, DE, bo, DH, v3, v5, v8, v9, v10, v12, v15, v23, l, .non, none, Pz, ⟨hl, hun, .inl ⟨hl', rfl⟩⟩, rfl, rfl, kQ⟩
end Rb
end

section
set_option Elab.async false
set_option linter.all false
set_option maxRecDepth 100000
set_option maxHeartbeats 4000000
namespace Rb
open PySem PySem.Spec PyProof.Rows L2

theorem ends_due {W W' : WS} {Rs Bs : List Stp} (h : EndsOK W Rs Bs W') : (∀ st ∈ Bs, W'.ok st ∧ st.due = true) ∧ (∀ row q p md, Stp.put row q p md ∈ Bs → ∀ e ∈ W'.actL md, 0 ≤ W'.num q e ∧ W'.num q e < (W'.ln row : Int)) ∧ (Bs.map Stp.erow).Nodup ∧ Bs.length ≤ 4 := by
  obtain ⟨_, p0, m0, f1, p1, m1, f2, p2, m2, put, hB, hok, hput⟩ := h
  rcases hput with rfl | ⟨p4, p3, m3, rfl, hr⟩
  · rw [List.append_nil] at hB
    subst hB
    refine ⟨fun st hst => ⟨hok st hst, ?_⟩, fun row q p md hm => ?_, by show ([3, 4, 6] : List Nat).Nodup; decide, by show 3 ≤ 4; decide⟩
    · simp only [List.mem_cons, List.not_mem_nil, or_false] at hst
      rcases hst with rfl | rfl | rfl <;> rfl
    · simp only [List.mem_cons, List.not_mem_nil, or_false] at hm
      rcases hm with h | h | h <;> cases h
  · subst hB
    refine ⟨fun st hst => ⟨hok st hst, ?_⟩, fun row q p md hm => ?_, by show ([3, 4, 6, 5] : List Nat).Nodup; decide, by show 4 ≤ 4; decide⟩
    · simp only [List.mem_append, List.mem_cons, List.not_mem_nil, or_false] at hst
      rcases hst with (rfl | rfl | rfl) | rfl <;> rfl
    · simp only [List.mem_append, List.mem_cons, List.not_mem_nil, or_false] at hm
      rcases hm with (h | h | h) | h
      · cases h
      · cases h
      · cases h
      · cases h
        exact hr
structure MidPre (K : PySem.W.Frag) (Hb H : Hp) (ad : Rw → Addr) (ns : List Int) (many g0 g1 la0 la1 nse : Nat) (ln : Nat → Nat) (pr : Nat → Nat → Int) (W1 W2 : WS) (bodyS : List Stp) (cs R B : List (Addr × Stp)) (a ll lg ls pe la lb : Addr) : Prop where
  wa : WA Hb ad W2 H
  hS : SqL K Hb a (ns.map V.int)
  hll : Hb ll = some (.lst [.int (la0 : Int), .int (la1 : Int)])
  hlg : Hb lg = some (.lst [.int (g0 : Int), .int (g1 : Int)])
  la0b : 1 ≤ la0 ∧ la0 ≤ 64
  la1b : 1 ≤ la1 ∧ la1 ≤ 64
  g03 : g0 = 1 ∨ g0 = 2 ∨ g0 = 4
  g13 : g1 = 1 ∨ g1 = 2 ∨ g1 = 4
  gle : g1 ≤ g0
  en : nse = 8 / g0
  P : PartsOK ln pr many
  hlo : ∀ r, ln r ≤ 400
  hls : Hb ls = some (.lst (cs.map fun q => V.ref q.1))
  hcs : ∀ q ∈ cs, Hb q.1 = some (.tup q.2.vals)
  hcm : cs.map (·.2) = loadsOf nse ++ bodyS
  hrun : Runs (WS0 nse many ln pr) bodyS W1
  hbl : bodyS.length ≤ 56
  hpe : Hb pe = some (.tup [.ref la, .ref lb])
  hla : Hb la = some (.lst (R.map fun q => V.ref q.1))
  hlb : Hb lb = some (.lst (B.map fun q => V.ref q.1))
  hRB : ∀ q ∈ R ++ B, Hb q.1 = some (.tup q.2.vals)
  hends : EndsOK W1 (R.map (·.2)) (B.map (·.2)) W2
theorem MidPre.setup {K : PySem.W.Frag} {Hb H : Hp} {ad : Rw → Addr} {ns : List Int} {many g0 g1 la0 la1 nse : Nat} {ln : Nat → Nat} {pr : Nat → Nat → Int} {W1 W2 : WS} {bodyS : List Stp} {cs R B Bk : List (Addr × Stp)} {a ll lg ls pe la lb : Addr} (P : MidPre K Hb H ad ns many g0 g1 la0 la1 nse ln pr W1 W2 bodyS cs R B a ll lg ls pe la lb) (hsub : Bk.Sublist B) (hlaid : ∀ q ∈ Bk, W2.laid q.2) {tu g lanes : Nat} (ht : tu < 7) (hg : g = 1 ∨ g = 2 ∨ g = 4) (hgl : g ≤ g0) (hl : 1 ≤ lanes ∧ lanes ≤ 64) : Setup tu nse many g lanes ln pr (WS0 nse many ln pr) W2 (bodyS ++ R.map (·.2)) (Bk.map (·.2)) := by
  obtain ⟨e1, e2, e3, e4⟩ := ends_due P.hends
  obtain ⟨r1, r2, r3⟩ := ends_run P.hends
  have sub2 := hsub.map (·.2)
  refine ⟨ht, hg, hl.1, hl.2, ?_, ?_, P.P, rfl, rfl, rfl, rfl, rfl, fun _ _ => rfl, fun _ => rfl, fun _ _ _ _ => rfl, fun _ _ => rfl, runs_app P.hrun r1, ?_, ?_, fun st hst => ?_, fun row q p md hm => e2 row q p md (sub2.subset hm), ?_, Nat.le_trans sub2.length_le e4⟩
  · rw [P.en]
    rcases P.g03 with h | h | h <;> rw [h] <;> decide
  · rw [P.en]
    exact Nat.div_le_div_left hgl (by rcases hg with h | h | h <;> omega)
  · rw [List.getLast?_append, r2]
    rfl
  · rw [List.length_append]
    have := P.hbl
    omega
  · obtain ⟨q, hq, rfl⟩ := List.mem_map.mp hst
    have h1 := e1 q.2 (sub2.subset hst)
    exact ⟨h1.1, hlaid q hq, h1.2⟩
  · exact (sub2.map Stp.erow).nodup e3
def ts_law_mid (K : PySem.W.Frag) : TS := fun D σ H => ∃ (Hb : Hp) (ad : Rw → Addr) (ns : List Int) (many g0 g1 la0 la1 nse : Nat) (ln : Nat → Nat) (pr : Nat → Nat → Int) (W1 W2 : WS) (bodyS : List Stp) (cs R B : List (Addr × Stp)) (a ll lg ls pe la lb : Addr) (v3 v5 v8 : Option V), MidPre K Hb H ad ns many g0 g1 la0 la1 nse ln pr W1 W2 bodyS cs R B a ll lg ls pe la lb ∧
  σ = [some (.ref a), some (.ref (ad .pl)), some (.ref ll), v3, some (.ref lg), v5, some (.int (many : Int)), some (.ref (ad .wd)), v8, some (.ref ls), some (.ref pe), none, none, none, none, none, none, none, none, none, none, none, none, none, none] ∧ ∀ H', D.rt (.bl true) H'
theorem law_mid {P : Program} {w : World} {K : PySem.W.Frag} {mg : Str → Option Value} {base : Heap} (T : Txt w K mg) {cdv : Value} {A : Around} {outer : List Env} {s : Shared} {H : Hp} {E : XK} (hr : Room 12 (A.deeper (envOfC "law" (defScope s_law) s.heap.objs.size (ad_law K) cdv))) (hu : (A.deeper (envOfC "law" (defScope s_law) s.heap.objs.size (ad_law K) cdv)).units + 1 < cLine) (nd : (["_law_script", "_law_parts_here", "_law_lanes_here", "_law_shift", "_law_groups", "_law_seats", "_law_many", "_law_world", "_law_k", "_law_steps_here", "_law_ends", "_law_effects_here", "_law_step_here", "_law_n", "_law_turn", "_law_rows", "_law_body", "_law_handed", "_law_least", "_law_refusal", "_law_due_here", "_law_picks", "_law_told_here", "_law_j", "_law_p"] : List Str).Nodup) : PSs (cxOf CX0 P w K mg base ["_law_script", "_law_parts_here", "_law_lanes_here", "_law_shift", "_law_groups", "_law_seats", "_law_many", "_law_world", "_law_k", "_law_steps_here", "_law_ends", "_law_effects_here", "_law_step_here", "_law_n", "_law_turn", "_law_rows", "_law_body", "_law_handed", "_law_least", "_law_refusal", "_law_due_here", "_law_picks", "_law_told_here", "_law_j", "_law_p"] "law" (defScope s_law) (ad_law K) cdv A outer s H E).nox ((defBody s_law).drop 11) (ts_law_mid K) := by
  have C__law_turned := cal__law_turned (P := P) (base := base) T
  have C__law_some := cal__law_some (P := P) (base := base) T
  have C__law_reads_laid := cal__law_reads_laid (P := P) (base := base) T
  refine PSs.pre ((pss_cons (ps_setLc (i := 11) (own := [("_law_step_here", 12)]) (g := gName 12) rfl nd rfl rfl (sw_true rfl rfl rfl (by decide +kernel)) (pi_list (pe_ix ix_tup (pv 10) pe_int (fun _ _ => rfl))) (blkOk_by (N := ["_law_script", "_law_parts_here", "_law_lanes_here", "_law_shift", "_law_groups", "_law_seats", "_law_many", "_law_world", "_law_k", "_law_steps_here", "_law_ends", "_law_effects_here", "_law_step_here", "_law_n", "_law_turn", "_law_rows", "_law_body", "_law_handed", "_law_least", "_law_refusal", "_law_due_here", "_law_picks", "_law_told_here", "_law_j", "_law_p"]) (sc := defScope s_law) (by decide +kernel)) (fun _ _ _ _ _ => pg_name (i := 12) nd rfl (Or.inl rfl)) (fun _ _ _ _ _ => (pts_one (pt_val (pe_cl C__law_reads_laid (hr.mono (by decide)) (pa_cons (pv 7) (pa_cons (pv 12) pa_nil)))))) (fun _ _ _ _ _ => (pv 12)))
      (pss_cons (ps_set (i := 13) nd rfl (Or.inl rfl) (pe_cl C__law_some (hr.mono (by decide)) (pa_cons (pv 0) (pa_cons pe_int (pa_cons pe_int (pa_cons pe_int pa_nil))))))
      (pss_cons (ps_set (i := 14) nd rfl (Or.inr rfl) (pe_cl C__law_some (hr.mono (by decide)) (pa_cons (pv 0) (pa_cons pe_int (pa_cons pe_int (pa_cons pe_int pa_nil))))))
      (pss_cons (ps_set (i := 15) nd rfl (Or.inr rfl) (pe_lc (own := [("_law_k", 8)]) (g := gName 8) rfl nd (pi_range1 rfl T.b_range (pa_cons pe_int pa_nil)) (blkOk_by (N := ["_law_script", "_law_parts_here", "_law_lanes_here", "_law_shift", "_law_groups", "_law_seats", "_law_many", "_law_world", "_law_k", "_law_steps_here", "_law_ends", "_law_effects_here", "_law_step_here", "_law_n", "_law_turn", "_law_rows", "_law_body", "_law_handed", "_law_least", "_law_refusal", "_law_due_here", "_law_picks", "_law_told_here", "_law_j", "_law_p"]) (sc := defScope s_law) (by decide +kernel)) (fun _ _ _ _ _ => pg_name (i := 8) nd rfl (Or.inl rfl)) (fun _ _ _ _ _ => pts_nil) (fun _ _ _ _ _ => (pe_op op_mod (pe_op op_sub (pv 8) (pv 14)) pe_int))))
      (pss_cons (ps_set (i := 16) nd rfl (Or.inl rfl) (pe_op op_cat (pe_lc (own := [("_law_step_here", 12)]) (g := gName 12) rfl nd (pi_list (pe_op op_cat (pe_op op_cat (pv 9) (pe_ix ix_tup (pv 10) pe_int (fun _ _ => rfl))) (pv 11))) (blkOk_by (N := ["_law_script", "_law_parts_here", "_law_lanes_here", "_law_shift", "_law_groups", "_law_seats", "_law_many", "_law_world", "_law_k", "_law_steps_here", "_law_ends", "_law_effects_here", "_law_step_here", "_law_n", "_law_turn", "_law_rows", "_law_body", "_law_handed", "_law_least", "_law_refusal", "_law_due_here", "_law_picks", "_law_told_here", "_law_j", "_law_p"]) (sc := defScope s_law) (by decide +kernel)) (fun _ _ _ _ _ => pg_name (i := 12) nd rfl (Or.inl rfl)) (fun _ _ _ _ _ => pts_nil) (fun _ _ _ _ _ => (pe_cl C__law_turned (hr.mono (by decide)) (pa_cons (pv 12) (pa_cons (pv 15) pa_nil))))) (pe_lst (pa_cons (pe_tup (pa_cons pe_str (pa_cons (pv 13) pa_nil))) (pa_cons (pe_tup (pa_cons pe_str pa_nil)) pa_nil)))))
      (pss_cons (ps_setLc (i := 17) (own := [("_law_k", 8)]) (g := gName 8) rfl nd rfl rfl (sw_true rfl rfl rfl (by decide +kernel)) (pi_range1 rfl T.b_range (pa_cons pe_int pa_nil)) (blkOk_by (N := ["_law_script", "_law_parts_here", "_law_lanes_here", "_law_shift", "_law_groups", "_law_seats", "_law_many", "_law_world", "_law_k", "_law_steps_here", "_law_ends", "_law_effects_here", "_law_step_here", "_law_n", "_law_turn", "_law_rows", "_law_body", "_law_handed", "_law_least", "_law_refusal", "_law_due_here", "_law_picks", "_law_told_here", "_law_j", "_law_p"]) (sc := defScope s_law) (by decide +kernel)) (fun _ _ _ _ _ => pg_name (i := 8) nd rfl (Or.inl rfl)) (fun _ _ _ _ _ => pts_nil) (fun _ _ _ _ _ => (pe_callTy (listK K) rfl T.b_list (by decide +kernel) (pa_cons (pe_ix (ixLK K) (pv 1) (pe_op op_mod (pe_op op_add (pv 8) (pv 14)) pe_int) (fun _ _ => rfl)) pa_nil))))
      (law_end T hr hu nd)))))))) (fun D σ H h => ?_)
  obtain ⟨Hb, ad, ns, many, g0, g1, la0, la1, nse, ln, pr, W1, W2, bodyS, cs, R, B, a, ll, lg, ls, pe, la, lb, v3, v5, v8, Pz, rfl, kQ⟩ := h
  have A2 := Pz.wa
  have hS : SqL K H a (ns.map V.int) := A2.same.seq Pz.hS
  have pe10 := A2.same _ _ Pz.hpe
  have lb10 := A2.same _ _ Pz.hlb
  have la10 := A2.same _ _ Pz.hla
  have ls10 := A2.same _ _ Pz.hls
  have hcs := Pz.hcs
  have hcm := Pz.hcm
  have hrun := Pz.hrun
  have hbl := Pz.hbl
  have hRB := Pz.hRB
  have hends0 := Pz.hends
  have hends := Pz.hends
  have hlo' := Pz.hlo
  have n8 : nse ≤ 8 := by
    rw [Pz.en]
    exact Nat.div_le_self 8 g0
  obtain ⟨hR, p0, m0', f1s, p1, m1', f2s, p2, m2', put, hBeq, hBok, hput⟩ := hends
  -- effects
  refine ⟨_, rfl, _, _, _, _, rfl, rfl, SqT.of pe10, atI_of (j := 1) rfl rfl, lb, rfl, ⟨_, SqL.of lb10⟩, fun DE hDE => ?_⟩
  refine lc_list (K := K) (a := lb) (xs := B.map fun q => V.ref q.1) (fun i H' => Same H H' ∧ ∃ Bk : List (Addr × Stp), H' DE = some (.lst (Bk.map fun q => V.ref q.1)) ∧ Bk.Sublist (B.take i) ∧ ∀ q ∈ Bk, W2.laid q.2) ⟨same_new hDE, [], upd_same, List.nil_sublist _, fun q hq => by cases hq⟩ (fun i H' _ ⟨sx, _⟩ => SqL.of (sx _ _ lb10)) (fun i x H' hi ⟨sx, Bk, hBk, hsub, hlaidk⟩ => ?_) (fun H' ⟨sx, Bk, hBk, hsub, hlaidk⟩ => ?_)
  · obtain ⟨q, hq, rfl⟩ : ∃ q, B[i]? = some q ∧ x = .ref q.1 := by
      rw [List.getElem?_map] at hi
      cases hz : B[i]? with
      | none => rw [hz] at hi; cases hi
      | some z => rw [hz] at hi; cases hi; exact ⟨z, rfl, rfl⟩
    have hqB := List.mem_of_getElem? hq
    refine ⟨wipe_one, ?_⟩
    refine ⟨_, rfl, _, rfl, Hb, ad, W2, q.1, q.2, rfl, A2.sm sx, hRB q (List.mem_append.mpr (.inr hqB)), hBok q.2 (List.mem_map.mpr ⟨q, hqB, rfl⟩), fun b H4 s4 hb => ⟨_, rfl, ?_⟩⟩
    have hB4 : B.length ≤ 4 := by
      have := congrArg List.length hBeq
      rw [List.length_map, List.length_append] at this
      rcases hput with h | ⟨_, _, _, h, _⟩ <;> rw [h] at this <;> simp at this <;> omega
    have hsl := hsub.length_le
    rw [List.length_take] at hsl
    refine iteB (fun hbt => ?_) (fun hbf => ?_)
    · refine ⟨_, rfl, _, s4 _ _ hBk, by rw [List.length_map]; exact sz_lt (by omega), fun b o e => ?_, Bk ++ [q], ?_, ?_, fun q2 hq2 => ?_⟩
      · rw [upd_ne (ne_of_none e hDE)]
        exact s4 b o (sx b o e)
      · rw [upd_same, List.map_append]
        rfl
      · rw [take_snoc hq]
        exact hsub.append (List.Sublist.refl _)
      · rcases List.mem_append.mp hq2 with h | h
        · exact hlaidk q2 h
        · rw [List.mem_singleton.mp h]
          exact hb.mp hbt
    · refine ⟨sx.trans s4, Bk, s4 _ _ hBk, ?_, hlaidk⟩
      rw [take_snoc hq]
      exact hsub.trans (List.sublist_append_left _ _)
  rw [List.length_map, List.take_length] at hsub
  -- turn, rows
  have A2E := A2.sm sx
  obtain ⟨tu, htu, etu⟩ := ls_nat ns 3 2 (n := 7) (by decide)
  refine ⟨_, rfl, a, ns, 3, 1, 1000, rfl, sx.seq hS, by decide, by decide, by decide, ?_⟩
  refine ⟨_, rfl, a, ns, 3, 2, 7, rfl, sx.seq hS, by decide, by decide, by decide, ?_⟩
  rw [show lsome ns 3 2 7 = (tu : Int) from etu]
  refine ⟨_, rfl, by decide, by decide, fun DR hDR => ?_⟩
  refine comp_range hDR (n := 7) (fun k => V.int (fr tu k : Int)) (by decide) (fun i H5 hi sy Q' q => ?_) (fun HR sR hRc => ?_)
  · have ev : ((0 : Int) + (i : Int) - (tu : Int)) % 7 = ((fr tu i : Nat) : Int) := by
      unfold fr
      omega
    rw [← ev] at q
    exact ⟨_, rfl, _, rfl, _, _, rfl, rfl, _, _, rfl, rfl, (by show (0 : Int) < 7; decide), q _ (Same.refl _)⟩
  -- the body
  have AR := A2E.sm sR
  have sHR : Same H HR := sx.trans sR
  have lsR : HR ls = some (.lst (cs.map fun q => V.ref q.1)) := sHR _ _ ls10
  have hRl : R.length ≤ 2 := by
    rcases hR with ⟨h, _⟩ | ⟨_, _, h, _⟩ <;> (have := congrArg List.length h; rw [List.length_map] at this; simp at this; omega)
  have hBl4 : B.length ≤ 4 := by
    have := congrArg List.length hBeq
    rw [List.length_map, List.length_append] at this
    rcases hput with h | ⟨_, _, _, h, _⟩ <;> rw [h] at this <;> simp at this <;> omega
  have hBkl : Bk.length ≤ 4 := Nat.le_trans hsub.length_le hBl4
  have hcsl : cs.length ≤ 64 := by
    have := congrArg List.length hcm
    unfold loadsOf at this
    rw [List.length_map, List.length_append, List.length_map, List.length_range] at this
    omega
  refine ⟨_, rfl, _, rfl, _, _, _, _, rfl, rfl, SqT.of (sHR _ _ pe10), atI_of (j := 0) rfl rfl, ls, la, _, _, rfl, rfl, lsR, sHR _ _ la10, by rw [List.length_map, List.length_map]; exact sz_le (by omega), fun k1 hk1 => ?_⟩
  have hk1c : upd HR k1 (.lst ((cs.map fun q => V.ref q.1) ++ R.map fun q => V.ref q.1)) k1 = some (.lst ((cs.map fun q => V.ref q.1) ++ R.map fun q => V.ref q.1)) := upd_same
  have uk1 : Same HR (upd HR k1 (.lst ((cs.map fun q => V.ref q.1) ++ R.map fun q => V.ref q.1))) := same_new hk1
  generalize upd HR k1 (.lst ((cs.map fun q => V.ref q.1) ++ R.map fun q => V.ref q.1)) = HS at hk1c uk1 ⊢
  refine ⟨_, rfl, k1, DE, _, _, rfl, rfl, hk1c, uk1 _ _ (sR _ _ hBk), by rw [List.length_append, List.length_map, List.length_map, List.length_map]; exact sz_le (by omega), fun k2 hk2 => ?_⟩
  have eall : ((cs.map fun q => V.ref q.1) ++ R.map fun q => V.ref q.1) ++ (Bk.map fun q => V.ref q.1) = (cs ++ R ++ Bk).map fun q => V.ref q.1 := by rw [List.map_append, List.map_append]
  rw [eall]
  have hk2c : upd HS k2 (.lst ((cs ++ R ++ Bk).map fun q => V.ref q.1)) k2 = some (.lst ((cs ++ R ++ Bk).map fun q => V.ref q.1)) := upd_same
  have uk2 : Same HS (upd HS k2 (.lst ((cs ++ R ++ Bk).map fun q => V.ref q.1))) := same_new hk2
  generalize upd HS k2 (.lst ((cs ++ R ++ Bk).map fun q => V.ref q.1)) = HU at hk2c uk2 ⊢
  have sRU := uk1.trans uk2
  have sGU : Same H HU := sHR.trans sRU
  have hall : ∀ q ∈ cs ++ R ++ Bk, HU q.1 = some (.tup q.2.vals) := fun q hq => by
    rcases List.mem_append.mp hq with hq | hq
    · rcases List.mem_append.mp hq with hq | hq
      · exact sGU _ _ (A2.same _ _ (hcs q hq))
      · exact sGU _ _ (A2.same _ _ (hRB q (List.mem_append.mpr (.inl hq))))
    · exact sGU _ _ (A2.same _ _ (hRB q (List.mem_append.mpr (.inr (hsub.subset hq)))))
  have hrp : ∀ q ∈ cs ++ R ++ Bk, q.2.row7 ∧ q.2.pln := fun q hq => by
    rcases List.mem_append.mp hq with hq | hq
    · rcases List.mem_append.mp hq with hq | hq
      · have h6 : q.2 ∈ cs.map (·.2) := List.mem_map.mpr ⟨q, hq, rfl⟩
        rw [hcm] at h6
        rcases List.mem_append.mp h6 with h6 | h6
        · obtain ⟨p6, _, h7⟩ := List.mem_map.mp h6
          rw [← h7]
          exact load_rp p6
        · exact runs_rp hrun _ h6
      · exact runs_rp (ends_run hends0).1 _ (List.mem_map.mpr ⟨q, hq, rfl⟩)
    · have okq := hBok q.2 (List.mem_map.mpr ⟨q, hsub.subset hq, rfl⟩)
      exact ⟨ok_row7 okq, ok_pln okq⟩
  have hrow7 : ∀ q ∈ cs ++ R ++ Bk, q.2.row7 := fun q hq => (hrp q hq).1
  generalize hAl : cs ++ R ++ Bk = AL0 at hk2c hall hrow7 hrp ⊢
  have hALl : AL0.length ≤ 70 := by
    rw [← hAl, List.length_append, List.length_append]
    omega
  refine ⟨k2, rfl, ⟨_, SqL.of hk2c⟩, fun DB hDB => ?_⟩
  refine lc_list (K := K) (a := k2) (xs := AL0.map fun q => V.ref q.1) (fun i H' => Same HU H' ∧ ∃ ts : List (Addr × Stp), H' DB = some (.lst (ts.map fun q => V.ref q.1)) ∧ ts.map (·.2) = (AL0.take i).map (fun q => q.2.turn (fr tu)) ∧ ∀ q ∈ ts, H' q.1 = some (.tup q.2.vals)) ⟨same_new hDB, [], upd_same, by rw [List.take_zero]; rfl, fun q hq => by cases hq⟩ (fun i H' _ ⟨sx, _⟩ => SqL.of (sx _ _ hk2c)) (fun i x H' hi ⟨sx, ts, hts, htm, htt⟩ => ?_) (fun HB ⟨sB, ts, hts, htm, htt⟩ => ?_)
  · obtain ⟨q, hq, rfl⟩ : ∃ q, AL0[i]? = some q ∧ x = .ref q.1 := by
      rw [List.getElem?_map] at hi
      cases hz : AL0[i]? with
      | none => rw [hz] at hi; cases hi
      | some z => rw [hz] at hi; cases hi; exact ⟨z, rfl, rfl⟩
    have hqA := List.mem_of_getElem? hq
    refine ⟨wipe_one, ?_⟩
    refine yes_of ?_
    refine ⟨_, rfl, _, rfl, q.1, DR, q.2, fr tu, 0, rfl, sx _ _ (hall q hqA), SqL.of (sx _ _ (sRU _ _ hRc)), hrow7 q hqA, fun p5 H5 s5 h5 => ?_⟩
    have hp5 : H5 p5 = some (.tup (q.2.turn (fr tu)).vals) := by
      rcases h5 with ⟨h, h'⟩ | h
      · rw [h, h']
        exact s5 _ _ (sx _ _ (hall q hqA))
      · exact h
    have htsl : ts.length ≤ 70 := by
      have := congrArg List.length htm
      rw [List.length_map, List.length_map, List.length_take] at this
      omega
    refine ⟨_, s5 _ _ hts, by rw [List.length_map]; exact sz_lt (by omega), fun b o e => ?_, ts ++ [(p5, q.2.turn (fr tu))], ?_, ?_, fun q2 hq2 => ?_⟩
    · rw [upd_ne (ne_of_none e hDB)]
      exact s5 b o (sx b o e)
    · rw [upd_same, List.map_append]
      rfl
    · rw [take_snoc hq, List.map_append, List.map_append, htm]
      rfl
    · have h6 : H5 q2.1 = some (.tup q2.2.vals) := by
        rcases List.mem_append.mp hq2 with h | h
        · exact s5 _ _ (htt q2 h)
        · rw [List.mem_singleton.mp h]
          exact hp5
      rw [upd_ne (fun z => by rw [z, s5 _ _ hts] at h6; cases h6)]
      exact h6
  rw [List.length_map, List.take_length] at htm
  have sGB : Same H HB := sGU.trans sB
  -- stop, next
  refine ⟨_, rfl, small_sz (by simp), fun y1 hy1 => ?_⟩
  have cy1 : upd HB y1 (.tup (Stp.stop (lsome ns 3 1 1000)).vals) y1 = some (.tup (Stp.stop (lsome ns 3 1 1000)).vals) := upd_same
  have uy1 : Same HB (upd HB y1 (.tup (Stp.stop (lsome ns 3 1 1000)).vals)) := same_new hy1
  have ey1 : HO.tup (Stp.stop (lsome ns 3 1 1000)).vals = HO.tup [.str "stop", .int (lsome ns 3 1 1000)] := rfl
  rw [← ey1]
  generalize upd HB y1 (.tup (Stp.stop (lsome ns 3 1 1000)).vals) = HC at cy1 uy1 ⊢
  refine ⟨small_sz (by simp), fun y2 hy2 => ?_⟩
  have cy2 : upd HC y2 (.tup (Stp.next).vals) y2 = some (.tup (Stp.next).vals) := upd_same
  have uy2 : Same HC (upd HC y2 (.tup (Stp.next).vals)) := same_new hy2
  have ey2 : HO.tup (Stp.next).vals = HO.tup [.str "next"] := rfl
  rw [← ey2]
  generalize upd HC y2 (.tup (Stp.next).vals) = HD at cy2 uy2 ⊢
  refine ⟨small_sz (by simp), fun y3 hy3 => ?_⟩
  have cy3 : upd HD y3 (.lst [.ref y1, .ref y2]) y3 = some (.lst [.ref y1, .ref y2]) := upd_same
  have uy3 : Same HD (upd HD y3 (.lst [.ref y1, .ref y2])) := same_new hy3
  generalize upd HD y3 (.lst [.ref y1, .ref y2]) = HE at cy3 uy3 ⊢
  have sBE : Same HB HE := (uy1.trans uy2).trans uy3
  have htsl : ts.length ≤ 70 := by
    have := congrArg List.length htm
    rw [List.length_map, List.length_map] at this
    omega
  refine ⟨DB, y3, _, _, rfl, rfl, sBE _ _ hts, cy3, by rw [List.length_map]; exact sz_le (by show ts.length + 2 ≤ 1000000; omega), fun bo hbo => ?_⟩
  have ebo : (ts.map fun q => V.ref q.1) ++ [.ref y1, .ref y2] = (ts ++ [(y1, Stp.stop (lsome ns 3 1 1000)), (y2, Stp.next)]).map fun q => V.ref q.1 := by rw [List.map_append]; rfl
  rw [ebo]
  have hboc : upd HE bo (.lst ((ts ++ [(y1, Stp.stop (lsome ns 3 1 1000)), (y2, Stp.next)]).map fun q => V.ref q.1)) bo = some (.lst ((ts ++ [(y1, Stp.stop (lsome ns 3 1 1000)), (y2, Stp.next)]).map fun q => V.ref q.1)) := upd_same
  have ubo : Same HE (upd HE bo (.lst ((ts ++ [(y1, Stp.stop (lsome ns 3 1 1000)), (y2, Stp.next)]).map fun q => V.ref q.1))) := same_new hbo
  generalize upd HE bo (.lst ((ts ++ [(y1, Stp.stop (lsome ns 3 1 1000)), (y2, Stp.next)]).map fun q => V.ref q.1)) = HF at hboc ubo ⊢
  have htt2 : ∀ q ∈ ts ++ [(y1, Stp.stop (lsome ns 3 1 1000)), (y2, Stp.next)], HF q.1 = some (.tup q.2.vals) := fun q hq => by
    rcases List.mem_append.mp hq with h | h
    · exact ubo _ _ (sBE _ _ (htt q h))
    · simp only [List.mem_cons, List.not_mem_nil, or_false] at h
      rcases h with rfl | rfl
      · exact ubo _ _ (uy3 _ _ (uy2 _ _ cy1))
      · exact ubo _ _ (uy3 _ _ cy2)
  have hpln2 : ∀ q ∈ ts ++ [(y1, Stp.stop (lsome ns 3 1 1000)), (y2, Stp.next)], q.2.pln := fun q hq => by
    rcases List.mem_append.mp hq with h | h
    · have h6 : q.2 ∈ ts.map (·.2) := List.mem_map.mpr ⟨q, h, rfl⟩
      rw [htm] at h6
      obtain ⟨q7, h7, h8⟩ := List.mem_map.mp h6
      rw [← h8]
      exact turn_pln (hrp q7 h7).2
    · simp only [List.mem_cons, List.not_mem_nil, or_false] at h
      rcases h with rfl | rfl
      · intro v hv
        have h9 : v ∈ [V.str "stop", .int (lsome ns 3 1 1000)] := hv
        simp only [List.mem_cons, List.not_mem_nil, or_false] at h9
        rcases h9 with rfl | rfl
        · exact .inr ⟨_, rfl, by decide +kernel⟩
        · exact .inl ⟨_, rfl⟩
      · intro v hv
        have h9 : v ∈ [V.str "next"] := hv
        rw [List.mem_singleton.mp h9]
        exact .inr ⟨_, rfl, by decide +kernel⟩
  generalize hbs : ts ++ [(y1, Stp.stop (lsome ns 3 1 1000)), (y2, Stp.next)] = bs at hboc htt2 hpln2 ⊢
  have sGF : Same H HF := (sGB.trans sBE).trans ubo
  have AF := A2.sm sGF
  obtain ⟨hrun2, hRlast, _⟩ := ends_run hends0
  have k2l : W2.ln = ln := (Runs.keep (runs_app hrun hrun2)).2.1
  have k2p : W2.pr = pr := (Runs.keep (runs_app hrun hrun2)).2.2.1
  have plF := AF.plL (K := K)
  -- handed
  refine ⟨_, rfl, by decide, by decide, fun DH hDH => ?_⟩
  refine comp_rangeA hDH (n := 7) (fun k => .lst ((List.range (ln (gr tu k))).map fun i => V.int (pr (gr tu k) i))) (by decide) (fun i H' hi sx Q' q => ?_) (fun HG asH sg hDHc lnH ndH nDH hHc => ?_)
  · have AFx := AF.sm sx
    have plx := AFx.plL (K := K)
    have h7 : gr tu i < 7 := gr7
    have hpx := AFx.partL (K := K) h7
    rw [k2l, k2p] at hpx
    refine ⟨_, rfl, _, rfl, _, rfl, _, _, rfl, rfl, _, _, rfl, rfl, (by show (0 : Int) < 7; decide), _, _, _, _, rfl, rfl, plx, atI_of (j := gr tu i) (by show ((0 : Int) + (i : Int) + (tu : Int)) % 7 = ((gr tu i : Nat) : Int); unfold gr; omega) (rm_get h7), ad (.part (gr tu i)), _, rfl, .inl hpx, fun l hl => q l _ hl (same_new hl) upd_same⟩
  have AG := AF.sm sg
  refine ⟨_, ad, ns, many, g0, g1, la0, la1, nse, tu, lsome ns 3 1 1000, ln, pr, WS0 nse many ln pr, W2, bodyS ++ R.map (·.2), Bk, bs, asH, a, ll, lg, DE, bo, DH, v3, v5, _, _, _, _, _, _, ⟨AG.rebase, AG.back.seq Pz.hS, AG.back _ _ Pz.hll, AG.back _ _ Pz.hlg, Pz.la0b, Pz.la1b, ?_, ?_, ?_, ?_, hpln2, ?_, ?_, lnH, ?_, ?_, Pz.setup hsub hlaidk htu Pz.g03 (Nat.le_refl _) Pz.la0b, Pz.setup hsub hlaidk htu Pz.g13 Pz.gle Pz.la1b, hlo'⟩, rfl, kQ⟩
  · exact A2.out_new hDE (sGF.trans sg) (sg _ _ (ubo _ _ (sBE _ _ (sB _ _ (sRU _ _ (sR _ _ hBk))))))
  · exact fun q hq => AG.back _ _ (hRB q (List.mem_append.mpr (.inr (hsub.subset hq))))
  · exact (A2.sm (sGB.trans sBE)).out_new hbo (ubo.trans sg) (sg _ _ hboc)
  · exact fun q hq => AG.out_tup (sg _ _ (htt2 q hq))
  · rw [← hbs, List.length_append]
    show ts.length + 2 ≤ 900
    omega
  · exact AF.out_new hDH sg hDHc
  · exact fun k x h => AF.out_new (hHc k x h).1 sg (hHc k x h).2
  · rw [← hbs, List.map_append, htm, ← hAl]
    unfold codeOf
    congr 1
    rw [← List.append_assoc, ← hcm, ← List.map_append, ← List.map_append, List.map_map]
    rfl
end Rb
end

section
set_option Elab.async false
set_option linter.all false
set_option maxRecDepth 100000
set_option maxHeartbeats 4000000
namespace Rb
open PySem PySem.Spec PyProof.Rows L2

theorem cut_ln {ln : Nat → Nat} {pr : Nat → Nat → Int} {many : Nat} (P : PartsOK ln pr many) : PartsOK (fun r => if r < 7 then ln r else 0) pr many ∧ ∀ r, (if r < 7 then ln r else 0) ≤ 400 := by
  have m1 := P.m1
  have l2 := P.l2
  have l5 := P.l5
  have l6 := P.l6
  refine ⟨⟨P.m0, P.m1, P.l0, P.l1, P.l2, P.l3, P.l4, P.l5, P.l6, P.kr⟩, fun r => ?_⟩
  by_cases h : r < 7
  · rw [if_pos h]
    have h7 : r = 0 ∨ r = 1 ∨ r = 2 ∨ r = 3 ∨ r = 4 ∨ r = 5 ∨ r = 6 := by omega
    rcases h7 with rfl | rfl | rfl | rfl | rfl | rfl | rfl
    · rw [P.l0]; omega
    · rw [P.l1]; omega
    · omega
    · rw [P.l3]; omega
    · rw [P.l4]; omega
    · omega
    · omega
  · rw [if_neg h]
    omega

theorem adW_out {nse many : Nat} {ln : Nat → Nat} {pr : Nat → Nat → Int} {p DS F wd mk md DT b : Addr} {as asS asT : List Addr} (ln0 : as.length = 7) (ln1 : asS.length = nse) (ln6 : asT.length = 60) (h0 : b ≠ p) (h1 : b ∉ as) (h2 : b ≠ DS) (h3 : b ∉ asS) (h4 : b ≠ F) (h5 : b ≠ wd) (h6 : b ≠ mk) (h7 : b ≠ md) (h8 : b ≠ DT) (h9 : b ∉ asT) : ∀ r, (WS0 nse many ln pr).rok r = true → b ≠ adW p as DS asS F wd mk md DT asT r := by
  intro r hr
  cases r with
  | pl => exact h0
  | part i => exact fun z => h1 (by rw [z]; exact getD_mem (by rw [ln0]; exact of_decide_eq_true hr))
  | sl => exact h2
  | seat i => exact fun z => h3 (by rw [z]; exact getD_mem (by rw [ln1]; exact of_decide_eq_true hr))
  | fl => exact h4
  | wd => exact h5
  | mask i => exact h6
  | md => exact h7
  | tl => exact h8
  | slot i => exact fun z => h9 (by rw [z]; exact getD_mem (by rw [ln6]; exact of_decide_eq_true hr))
structure WldPre (K : PySem.W.Frag) (Hb H : Hp) (ad : Rw → Addr) (ns : List Int) (many g0 g1 la0 la1 : Nat) (ln : Nat → Nat) (pr : Nat → Nat → Int) (a ll lg : Addr) : Prop where
  wa : WA Hb ad (WS0 (8 / g0) many ln pr) H
  hS : SqL K Hb a (ns.map V.int)
  hns : ns.length ≤ 63
  hll : Hb ll = some (.lst [.int (la0 : Int), .int (la1 : Int)])
  hlg : Hb lg = some (.lst [.int (g0 : Int), .int (g1 : Int)])
  la0b : 1 ≤ la0 ∧ la0 ≤ 64
  la1b : 1 ≤ la1 ∧ la1 ≤ 64
  g03 : g0 = 1 ∨ g0 = 2 ∨ g0 = 4
  g13 : g1 = 1 ∨ g1 = 2 ∨ g1 = 4
  gle : g1 ≤ g0
  P : PartsOK ln pr many
  hlo : ∀ r, ln r ≤ 400
def ts_law_pre (K : PySem.W.Frag) : TS := fun D σ H => ∃ (Hb : Hp) (ad : Rw → Addr) (ns : List Int) (many g0 g1 la0 la1 : Nat) (ln : Nat → Nat) (pr : Nat → Nat → Int) (a ll lg : Addr) (v3 v8 : Option V), WldPre K Hb H ad ns many g0 g1 la0 la1 ln pr a ll lg ∧
  σ = [some (.ref a), some (.ref (ad .pl)), some (.ref ll), v3, some (.ref lg), some (.int ((8 / g0 : Nat) : Int)), some (.int (many : Int)), some (.ref (ad .wd)), v8, none, none, none, none, none, none, none, none, none, none, none, none, none, none, none, none] ∧ ∀ H', D.rt (.bl true) H'
theorem law_pre {P : Program} {w : World} {K : PySem.W.Frag} {mg : Str → Option Value} {base : Heap} (T : Txt w K mg) {cdv : Value} {A : Around} {outer : List Env} {s : Shared} {H : Hp} {E : XK} (hr : Room 12 (A.deeper (envOfC "law" (defScope s_law) s.heap.objs.size (ad_law K) cdv))) (hu : (A.deeper (envOfC "law" (defScope s_law) s.heap.objs.size (ad_law K) cdv)).units + 1 < cLine) (nd : (["_law_script", "_law_parts_here", "_law_lanes_here", "_law_shift", "_law_groups", "_law_seats", "_law_many", "_law_world", "_law_k", "_law_steps_here", "_law_ends", "_law_effects_here", "_law_step_here", "_law_n", "_law_turn", "_law_rows", "_law_body", "_law_handed", "_law_least", "_law_refusal", "_law_due_here", "_law_picks", "_law_told_here", "_law_j", "_law_p"] : List Str).Nodup) : PSs (cxOf CX0 P w K mg base ["_law_script", "_law_parts_here", "_law_lanes_here", "_law_shift", "_law_groups", "_law_seats", "_law_many", "_law_world", "_law_k", "_law_steps_here", "_law_ends", "_law_effects_here", "_law_step_here", "_law_n", "_law_turn", "_law_rows", "_law_body", "_law_handed", "_law_least", "_law_refusal", "_law_due_here", "_law_picks", "_law_told_here", "_law_j", "_law_p"] "law" (defScope s_law) (ad_law K) cdv A outer s H E).nox ((defBody s_law).drop 9) (ts_law_pre K) := by
  have C__law_effects := cal__law_effects (P := P) (base := base) T
  have C__law_steps := cal__law_steps (P := P) (base := base) T
  refine PSs.pre ((pss_cons (ps_set (i := 9) nd rfl (Or.inl rfl) (pe_cl C__law_steps (hr.mono (by decide)) (pa_cons (pv 0) (pa_cons (pv 7) (pa_cons (pv 1) (pa_cons (pv 5) (pa_cons (pe_op op_mul (pe_ix ix_list (pv 4) pe_int (fun _ _ => rfl)) (pe_callB (cr_max rfl) rfl T.b_max (by decide +kernel) (pa_cons (pv 2) pa_nil))) pa_nil)))))))
      (pss_cons (ps_set (i := 10) nd rfl (Or.inl rfl) (pe_cl C__law_effects (hr.mono (by decide)) (pa_cons (pv 0) (pa_cons (pv 7) (pa_cons (pv 5) (pa_cons (pe_callB call_len_seq rfl T.b_len PySem.boot_len (pa_cons (pe_ix ix_list (pv 1) pe_int (fun _ _ => rfl)) pa_nil)) pa_nil))))))
      (law_mid T hr hu nd)))) (fun D σ H h => ?_)
  obtain ⟨Hb, ad, ns, many, g0, g1, la0, la1, ln, pr, a, ll, lg, v3, v8, Pz, rfl, kQ⟩ := h
  have AW := Pz.wa
  have hS := Pz.hS
  have hns := Pz.hns
  have hla0 := Pz.la0b
  have hla1 := Pz.la1b
  have g03 := Pz.g03
  have hllG := AW.same _ _ Pz.hll
  have hgcG := AW.same _ _ Pz.hlg
  have g0p : 0 < g0 ∧ g0 ≤ 4 := by omega
  have hn2 : 2 ≤ 8 / g0 := by
    rcases g03 with h | h | h <;> rw [h] <;> decide
  -- steps
  refine ⟨_, rfl, _, rfl, _, rfl, _, rfl, _, rfl, _, _, _, _, rfl, rfl, SqL.of hgcG, atI_of (j := 0) rfl rfl, ?_⟩
  refine ⟨_, rfl, ll, [(la0 : Int), (la1 : Int)], rfl, SqL.of hllG, by show 0 < 2; decide, fun mx hmx hmy => ?_⟩
  obtain ⟨mxn, hmxn, emx⟩ : ∃ mxn : Nat, (1 ≤ mxn ∧ mxn ≤ 64) ∧ mx = (mxn : Int) := by
    simp only [List.mem_cons, List.not_mem_nil, or_false] at hmx
    rcases hmx with h | h
    · exact ⟨la0, hla0, h⟩
    · exact ⟨la1, hla1, h⟩
  subst emx
  have hside : 0 < g0 * mxn ∧ g0 * mxn ≤ 1000 := by
    refine ⟨Nat.mul_pos g0p.1 hmxn.1, ?_⟩
    have := Nat.mul_le_mul g0p.2 hmxn.2
    omega
  refine ⟨_, _, rfl, rfl, .inl ⟨by omega, by omega⟩, ?_⟩
  refine ⟨Hb, _, WS0 (8 / g0) many ln pr, a, ns, g0 * mxn, rfl, AW, hS, hns, hn2, hside.1, hside.2, fun q e _ _ z => (by cases z), fun Ha ad1 W1 cs ls G9 bodyS sHa e1 e2 A1 hls hcs hcm hrun hbl => ?_⟩
  obtain ⟨k1n, k1l, k1p, k1m⟩ := Runs.keep hrun
  have k1n' : W1.nse = 8 / g0 := k1n
  have k1l' : W1.ln = ln := k1l
  have k1p' : W1.pr = pr := k1p
  have k1m' : W1.many = many := k1m
  have e1' : ad1 .wd = ad .wd := e1
  have e2' : ad1 .pl = ad .pl := e2
  have sG9 : Same Hb G9 := sHa.trans A1.same
  -- ends
  have plL1 := A1.plL (K := K)
  rw [e2'] at plL1
  refine ⟨_, rfl, _, rfl, _, rfl, _, rfl, _, _, _, _, rfl, rfl, plL1, atI_of (j := 5) rfl rfl, ad1 (.part 5), _, rfl, .inl (A1.partL (by decide)), ?_⟩
  rw [List.length_map, List.length_range]
  refine ⟨Ha, ad1, W1, a, ns, 0, by rw [e1', k1n']; rfl, A1, sG9.seq hS, by omega, fun Hc ad2 W2 R B pe la lb G10 sHb f1 f2 A2 hRB hpe hlaR hlbB hends => ?_⟩
  have sHc : Same Hb Hc := sHa.trans sHb
  refine ⟨Hc, ad2, ns, many, g0, g1, la0, la1, 8 / g0, ln, pr, W1, W2, bodyS, cs, R, B, a, ll, lg, ls, pe, la, lb, v3, some (.int ((8 / g0 : Nat) : Int)), v8, ⟨A2, sHc.seq hS, sHc _ _ Pz.hll, sHc _ _ Pz.hlg, hla0, hla1, g03, Pz.g13, Pz.gle, rfl, Pz.P, Pz.hlo, sHb _ _ hls, fun q hq => sHb _ _ (hcs q hq), hcm, hrun, hbl, hpe, hlaR, hlbB, hRB, hends⟩, ?_, kQ⟩
  rw [f1, f2, e1', e2'] <;> rfl
def sp_law (K : PySem.W.Frag) : Sp := fun vs H Q _ => ∃ (a : Addr) (ns : List Int), vs = [.ref a] ∧ ns.length ≤ 63 ∧ SqL K H a (ns.map V.int) ∧ ∀ H', Q (.bl true) H'
theorem sc_law : FnScope ["_law_script", "_law_parts_here", "_law_lanes_here", "_law_shift", "_law_groups", "_law_seats", "_law_many", "_law_world", "_law_k", "_law_steps_here", "_law_ends", "_law_effects_here", "_law_step_here", "_law_n", "_law_turn", "_law_rows", "_law_body", "_law_handed", "_law_least", "_law_refusal", "_law_due_here", "_law_picks", "_law_told_here", "_law_j", "_law_p"] ["_law_script"] (defScope s_law) := ⟨rfl, rfl, rfl, by decide +kernel, rfl, by decide +kernel, by decide +kernel⟩
theorem ok_law {P : Program} {w : World} {K : PySem.W.Frag} {mg : Str → Option Value} {base : Heap} (T : Txt w K mg) : FnOk P w K mg base CX0 13 (ad_law K) (fdOf K (ad_law K)) ["_law_script"] (sp_law K) := by
  have C__law_some := cal__law_some (P := P) (base := base) T
  have C__law_lanes := cal__law_lanes (P := P) (base := base) T
  have C__law_cell_at := cal__law_cell_at (P := P) (base := base) T
  have C__law_parts := cal__law_parts (P := P) (base := base) T
  refine T.f_law.ok sc_law (fun vs H Q E h => ?_) (fun cdv A outer s H vs Q E hr h => ?_)
  · obtain ⟨_, _, rfl, _⟩ := h
    rfl
  · have hu := hu_of hr
    have nd := sc_law.nd
    refine ⟨_, PSs.nox ((pss_cons (ps_set (i := 1) nd rfl (Or.inr rfl) (pe_cl C__law_parts (hr.mono (by decide)) (pa_cons (pv 0) pa_nil)))
      (pss_cons (ps_set (i := 2) nd rfl (Or.inl rfl) (pe_lst (pa_cons (pe_cl C__law_lanes (hr.mono (by decide)) (pa_cons (pe_cl C__law_cell_at (hr.mono (by decide)) (pa_cons (pv 0) (pa_cons pe_int pa_nil))) pa_nil)) (pa_cons (pe_cl C__law_lanes (hr.mono (by decide)) (pa_cons (pe_cl C__law_cell_at (hr.mono (by decide)) (pa_cons (pv 0) (pa_cons pe_int pa_nil))) pa_nil)) pa_nil))))
      (pss_cons (ps_set (i := 3) nd rfl (Or.inl rfl) (pe_cl C__law_some (hr.mono (by decide)) (pa_cons (pv 0) (pa_cons pe_int (pa_cons pe_int (pa_cons pe_int pa_nil))))))
      (pss_cons (ps_set (i := 4) nd rfl (Or.inl rfl) (pe_lst (pa_cons (pe_op op_shl pe_int (pv 3)) (pa_cons (pe_op op_shl pe_int (pe_cl C__law_some (hr.mono (by decide)) (pa_cons (pv 0) (pa_cons pe_int (pa_cons pe_int (pa_cons (pe_op op_add (pv 3) pe_int) pa_nil)))))) pa_nil))))
      (pss_cons (ps_set (i := 5) nd rfl (Or.inl rfl) (pe_op op_fdiv pe_int (pe_ix ix_list (pv 4) pe_int (fun _ _ => rfl))))
      (pss_cons (ps_set (i := 6) nd rfl (Or.inr rfl) (pe_callB call_len_seq rfl T.b_len PySem.boot_len (pa_cons (pe_ix ix_list (pv 1) pe_int (fun _ _ => rfl)) pa_nil)))
      (pss_cons (ps_set (i := 7) nd rfl (Or.inr rfl) (pe_disp (pps_cons pe_str (pe_lc (own := [("_law_p", 24)]) (g := gName 24) rfl nd (pi_range1 rfl T.b_range (pa_cons (pv 5) pa_nil)) (blkOk_by (N := ["_law_script", "_law_parts_here", "_law_lanes_here", "_law_shift", "_law_groups", "_law_seats", "_law_many", "_law_world", "_law_k", "_law_steps_here", "_law_ends", "_law_effects_here", "_law_step_here", "_law_n", "_law_turn", "_law_rows", "_law_body", "_law_handed", "_law_least", "_law_refusal", "_law_due_here", "_law_picks", "_law_told_here", "_law_j", "_law_p"]) (sc := defScope s_law) (by decide +kernel)) (fun _ _ _ _ _ => pg_name (i := 24) nd rfl (Or.inl rfl)) (fun _ _ _ _ _ => pts_nil) (fun _ _ _ _ _ => (pe_callTy (listK K) rfl T.b_list (by decide +kernel) (pa_cons (pe_ix (ixLK K) (pv 1) (pe_op op_mod (pv 24) pe_int) (fun _ _ => rfl)) pa_nil)))) (pps_cons pe_str (pe_op op_rep (pe_lst (pa_cons pe_non pa_nil)) (pv 6)) pps_nil)) (by rfl) (by rfl) (fun z => by cases z) (by decide)))
      (pss_cons (ps_dput hu (pv 7) pe_str (pe_disp (pps_cons pe_int (pe_op op_rep (pe_lst (pa_cons pe_bl pa_nil)) (pv 6)) pps_nil) (by rfl) (by rfl) (fun z => by cases z) (by decide)) rfl)
      (pss_cons (ps_dput hu (pv 7) pe_str (pe_lc (own := [("_law_k", 8)]) (g := gName 8) rfl nd (pi_range1 rfl T.b_range (pa_cons pe_int pa_nil)) (blkOk_by (N := ["_law_script", "_law_parts_here", "_law_lanes_here", "_law_shift", "_law_groups", "_law_seats", "_law_many", "_law_world", "_law_k", "_law_steps_here", "_law_ends", "_law_effects_here", "_law_step_here", "_law_n", "_law_turn", "_law_rows", "_law_body", "_law_handed", "_law_least", "_law_refusal", "_law_due_here", "_law_picks", "_law_told_here", "_law_j", "_law_p"]) (sc := defScope s_law) (by decide +kernel)) (fun _ _ _ _ _ => pg_name (i := 8) nd rfl (Or.inl rfl)) (fun _ _ _ _ _ => pts_nil) (fun _ _ _ _ _ => (pe_op op_rep (pe_lst (pa_cons pe_non pa_nil)) (pv 6)))) rfl)
      (law_pre T hr hu nd))))))))))), ?_⟩
    obtain ⟨a, ns, rfl, hns, hS, kQ⟩ := h
    refine ⟨_, rfl, a, ns, rfl, hS, fun pl as ln0 pr many H1 hpl s1 hplc hal hand hpa hA0 P0 => ?_⟩
    obtain ⟨P, hlo⟩ := cut_ln P0
    have hA : ∀ (r : Nat) (x : Addr), as[r]? = some x → H x = none ∧ H1 x = some (.lst ((List.range (if r < 7 then ln0 r else 0)).map fun i => V.int (pr r i))) := fun r x h => by
      have hr : r < 7 := by
        have := (List.getElem?_eq_some_iff.mp h).1
        omega
      rw [if_pos hr]
      exact hA0 r x h
    have hlnd : ∃ ln : Nat → Nat, ln = fun r => if r < 7 then ln0 r else 0 := ⟨_, rfl⟩
    obtain ⟨ln, hln⟩ := hlnd
    have hA' : ∀ (r : Nat) (x : Addr), as[r]? = some x → H x = none ∧ H1 x = some (.lst ((List.range (ln r)).map fun i => V.int (pr r i))) := fun r x h => by
      rw [hln]
      exact hA r x h
    rw [← hln] at P
    have hlo' : ∀ r, ln r ≤ 400 := fun r => by rw [hln]; exact hlo r
    clear hA hA0 P0 hlo hln
    have m0 := P.m0
    have m40 := P.m1
    have hx : ∀ r : Nat, r < 7 → ∃ x : Addr, as[r]? = some x := fun r hr => ⟨_, List.getElem?_eq_getElem (by omega)⟩
    have hxr : ∀ (r : Nat) (x : Addr), as[r]? = some x → (as.map V.ref)[r]? = some (V.ref x) := fun r x h => by rw [List.getElem?_map, h]; rfl
    have hS1 := s1.seq hS
    -- lanes
    refine ⟨_, rfl, a, ns, 1, rfl, hS1, _, rfl, _, rfl, a, ns, 2, rfl, hS1, _, rfl, two_sz, fun ll hll => ?_⟩
    have lanes_b : ∀ c : Int, 1 ≤ llanes c ∧ llanes c ≤ 64 := fun c => by
      unfold llanes
      split <;> omega
    obtain ⟨la0, ela0⟩ : ∃ la0 : Nat, llanes (cAt ns 1) = (la0 : Int) := ⟨(llanes (cAt ns 1)).toNat, by have := lanes_b (cAt ns 1); omega⟩
    obtain ⟨la1, ela1⟩ : ∃ la1 : Nat, llanes (cAt ns 2) = (la1 : Int) := ⟨(llanes (cAt ns 2)).toNat, by have := lanes_b (cAt ns 2); omega⟩
    have hla0 : 1 ≤ la0 ∧ la0 ≤ 64 := by have := lanes_b (cAt ns 1); omega
    have hla1 : 1 ≤ la1 ∧ la1 ≤ 64 := by have := lanes_b (cAt ns 2); omega
    have hllc : upd H1 ll (.lst [.int (llanes (cAt ns 1)), .int (llanes (cAt ns 2))]) ll = some (.lst [.int (la0 : Int), .int (la1 : Int)]) := by rw [upd_same, ela0, ela1]
    have u2 : Same H1 (upd H1 ll (.lst [.int (llanes (cAt ns 1)), .int (llanes (cAt ns 2))])) := same_new hll
    generalize upd H1 ll (.lst [.int (llanes (cAt ns 1)), .int (llanes (cAt ns 2))]) = H2 at hllc u2 ⊢
    have hS2 := u2.seq hS1
    -- shift, groups
    obtain ⟨sh, hsh, esh⟩ := ls_nat ns 1 1 (n := 3) (by decide)
    refine ⟨_, rfl, a, ns, 1, 1, 3, rfl, hS2, by decide, by decide, by decide, ?_⟩
    rw [show lsome ns 1 1 3 = (sh : Int) from esh]
    obtain ⟨s2n, hs2n, es2n⟩ := ls_nat ns 1 2 (n := sh + 1) (by omega)
    refine ⟨_, rfl, _, _, rfl, rfl, ⟨by omega, by omega, by decide⟩, _, rfl, _, rfl, _, _, rfl, rfl, a, ns, 1, 2, (sh : Int) + 1, rfl, hS2, by decide, by decide, by omega, ?_⟩
    have es2 : lsome ns 1 2 ((sh : Int) + 1) = (s2n : Int) := es2n
    rw [es2]
    refine ⟨_, _, rfl, rfl, ⟨by omega, by omega, by decide⟩, two_sz, fun lg hlg => ?_⟩
    have hgc : upd H2 lg (.lst [.int (1 * 2 ^ ((sh : Nat) : Int).toNat), .int (1 * 2 ^ ((s2n : Nat) : Int).toNat)]) lg = some (.lst [.int ((2 ^ sh : Nat) : Int), .int ((2 ^ s2n : Nat) : Int)]) := by
      rw [upd_same, Int.toNat_natCast, Int.toNat_natCast, Int.one_mul, Int.one_mul]
      push_cast
      rfl
    have u3 : Same H2 (upd H2 lg (.lst [.int (1 * 2 ^ ((sh : Nat) : Int).toNat), .int (1 * 2 ^ ((s2n : Nat) : Int).toNat)])) := same_new hlg
    generalize upd H2 lg (.lst [.int (1 * 2 ^ ((sh : Nat) : Int).toNat), .int (1 * 2 ^ ((s2n : Nat) : Int).toNat)]) = H3 at hgc u3
    have g03 : (2 ^ sh = 1 ∨ 2 ^ sh = 2 ∨ 2 ^ sh = 4) := by
      have h3 : sh = 0 ∨ sh = 1 ∨ sh = 2 := by omega
      rcases h3 with rfl | rfl | rfl
      · exact .inl rfl
      · exact .inr (.inl rfl)
      · exact .inr (.inr rfl)
    have g13 : (2 ^ s2n = 1 ∨ 2 ^ s2n = 2 ∨ 2 ^ s2n = 4) := by
      have h3 : s2n = 0 ∨ s2n = 1 ∨ s2n = 2 := by omega
      rcases h3 with rfl | rfl | rfl
      · exact .inl rfl
      · exact .inr (.inl rfl)
      · exact .inr (.inr rfl)
    have gle : 2 ^ s2n ≤ 2 ^ sh := Nat.pow_le_pow_right (by decide) (by omega)
    generalize hg0 : 2 ^ sh = g0 at *
    generalize hg1 : 2 ^ s2n = g1 at *
    have g0p : 0 < g0 ∧ g0 ≤ 4 := by omega
    refine ⟨_, rfl, _, _, _, _, rfl, rfl, SqL.of hgc, atI_of (j := 0) rfl rfl, _, _, rfl, rfl, ⟨by omega, by omega⟩, ?_⟩
    -- many
    obtain ⟨x0, hx0⟩ := hx 0 (by decide)
    have u13 := u2.trans u3
    have hA3 : ∀ (r : Nat) (x : Addr), as[r]? = some x → H3 x = some (.lst ((List.range (ln r)).map fun i => V.int (pr r i))) := fun r x h => u13 _ _ (hA' r x h).2
    have hpl3 := u13 _ _ hplc
    refine ⟨_, rfl, _, _, _, _, rfl, rfl, SqL.of hpl3, atI_of (j := 0) rfl (hxr 0 x0 hx0), x0, _, rfl, .inl (SqL.of (hA3 0 x0 hx0)), ?_⟩
    rw [List.length_map, List.length_range, P.l0]
    have s3 := s1.trans u13
    have hn8 : 8 / g0 ≤ 8 := Nat.div_le_self 8 g0
    have hn2 : 2 ≤ 8 / g0 := by
      rcases g03 with h | h | h <;> rw [h] <;> decide
    have e8 : (8 : Int) / (g0 : Int) = ((8 / g0 : Nat) : Int) := rfl
    -- the world: seats
    intro wd hwd
    have w1 : Same H3 (upd H3 wd (.dK [])) := same_new hwd
    have wdc : upd H3 wd (.dK []) wd = some (.dK []) := upd_same
    generalize hG2 : upd H3 wd (.dK []) = G2 at w1 wdc ⊢
    refine ⟨_, rfl, _, rfl, by show -2 ^ 62 ≤ (8 : Int) / (g0 : Int); rw [e8]; omega, by show (8 : Int) / (g0 : Int) < 2 ^ 62; rw [e8]; omega, fun DS hDS => ?_⟩
    refine comp_rangeA (n := 8 / g0) hDS (fun q => .lst ((List.range many).map fun e => V.int (pr (q % 2) e))) (by omega) (fun i H' hi sx Q' q => ?_) (fun G3 asS sg3 hDSc lnS ndS nDS hSc => ?_)
    · have hi2 : i % 2 < 7 := by omega
      obtain ⟨x, hxi⟩ := hx (i % 2) hi2
      have hAx := sx _ _ (w1 _ _ (hA3 (i % 2) x hxi))
      have el : ln (i % 2) = many := by
        have h2 : i % 2 = 0 ∨ i % 2 = 1 := by omega
        rcases h2 with h | h <;> rw [h]
        · exact P.l0
        · exact P.l1
      rw [el] at hAx
      refine ⟨_, rfl, _, rfl, _, _, rfl, rfl, (by show (0 : Int) < 2; decide), _, _, _, _, rfl, rfl, SqL.of (sx _ _ (w1 _ _ hpl3)), atI_of (j := i % 2) (by show ((0 : Int) + (i : Int)) % 2 = ((i % 2 : Nat) : Int); omega) (hxr _ x hxi), x, _, rfl, .inl (SqL.of hAx), fun l hl => q l _ hl (same_new hl) upd_same⟩
    refine ⟨one_sz, fun t1 ht1 => ?_⟩
    have u1 : Same G3 (upd G3 t1 (.lst [.non])) := same_new ht1
    have ht1c : upd G3 t1 (.lst [.non]) t1 = some (.lst [.non]) := upd_same
    generalize upd G3 t1 (.lst [.non]) = G3b at u1 ht1c ⊢
    refine ⟨_, rfl, t1, _, _, rfl, rfl, ht1c, by omega, by omega, by rw [Int.toNat_natCast]; exact sz_le (by show 1 * many ≤ 1000000; omega), fun F hF => ?_⟩
    rw [Int.toNat_natCast, rep_flat]
    have hFc : upd G3b F (.lst ((List.range many).map fun _ => V.non)) F = some (.lst ((List.range many).map fun _ => V.non)) := upd_same
    have uF : Same G3b (upd G3b F (.lst ((List.range many).map fun _ => V.non))) := same_new hF
    generalize upd G3b F (.lst ((List.range many).map fun _ => V.non)) = G3c at uF hFc ⊢
    have wd3 := uF _ _ (u1 _ _ (sg3 _ _ wdc))
    refine ⟨wd3, [(.inr "seats", .ref DS), (.inr "faults", .ref F)], rfl, by show 2 ≤ 15; decide, ?_⟩
    have ek1 : upd G3c wd (.dK (mergeK [] [(.inr "seats", .ref DS), (.inr "faults", .ref F)])) wd = some (.dK [(.inr "seats", .ref DS), (.inr "faults", .ref F)]) := upd_same
    have bt1 : ∀ b o, b ≠ wd → G3c b = some o → upd G3c wd (.dK (mergeK [] [(.inr "seats", .ref DS), (.inr "faults", .ref F)])) b = some o := fun b o hb e => by rw [upd_ne hb]; exact e
    generalize upd G3c wd (.dK (mergeK [] [(.inr "seats", .ref DS), (.inr "faults", .ref F)])) = G4 at ek1 bt1 ⊢
    -- masks
    intro md hmd
    have umd : Same G4 (upd G4 md (.dK [])) := same_new hmd
    have mdc : upd G4 md (.dK []) md = some (.dK []) := upd_same
    generalize upd G4 md (.dK []) = G5 at umd mdc ⊢
    refine ⟨one_sz, fun t2 ht2 => ?_⟩
    have u2b : Same G5 (upd G5 t2 (.lst [.bl true])) := same_new ht2
    have ht2c : upd G5 t2 (.lst [.bl true]) t2 = some (.lst [.bl true]) := upd_same
    generalize upd G5 t2 (.lst [.bl true]) = G5b at u2b ht2c ⊢
    refine ⟨_, rfl, t2, _, _, rfl, rfl, ht2c, by omega, by omega, by rw [Int.toNat_natCast]; exact sz_le (by show 1 * many ≤ 1000000; omega), fun mk hmk => ?_⟩
    rw [Int.toNat_natCast, rep_flat]
    have hmkc : upd G5b mk (.lst ((List.range many).map fun _ => V.bl true)) mk = some (.lst ((List.range many).map fun _ => V.bl true)) := upd_same
    have umk : Same G5b (upd G5b mk (.lst ((List.range many).map fun _ => V.bl true))) := same_new hmk
    generalize upd G5b mk (.lst ((List.range many).map fun _ => V.bl true)) = G5c at umk hmkc ⊢
    have md5 := umk _ _ (u2b _ _ mdc)
    refine ⟨md5, [(.inl 0, .ref mk)], rfl, by show 1 ≤ 15; decide, ?_⟩
    have ek2 : upd G5c md (.dK (mergeK [] [(.inl 0, .ref mk)])) md = some (.dK [(.inl 0, .ref mk)]) := upd_same
    have bt2 : ∀ b o, b ≠ md → G5c b = some o → upd G5c md (.dK (mergeK [] [(.inl 0, .ref mk)])) b = some o := fun b o hb e => by rw [upd_ne hb]; exact e
    generalize upd G5c md (.dK (mergeK [] [(.inl 0, .ref mk)])) = G5d at ek2 bt2 ⊢
    have hwm : wd ≠ md := fun z => by rw [← z, ek1] at hmd; cases hmd
    have wd5 := bt2 wd _ hwm (umk _ _ (u2b _ _ (umd _ _ ek1)))
    refine ⟨_, rfl, wd, _, rfl, DPut.k (k := Sum.inr "masks") wd5 (by show 2 < sizeLine; decide), ?_⟩
    have ek3 : upd G5d wd (.dK (putK [(.inr "seats", .ref DS), (.inr "faults", .ref F)] (Sum.inr "masks") (.ref md))) wd = some (.dK [(.inr "seats", .ref DS), (.inr "faults", .ref F), (.inr "masks", .ref md)]) := upd_same
    have bt3 : ∀ b o, b ≠ wd → G5d b = some o → upd G5d wd (.dK (putK [(.inr "seats", .ref DS), (.inr "faults", .ref F)] (Sum.inr "masks") (.ref md))) b = some o := fun b o hb e => by rw [upd_ne hb]; exact e
    generalize upd G5d wd (.dK (putK [(.inr "seats", .ref DS), (.inr "faults", .ref F)] (Sum.inr "masks") (.ref md))) = G6 at ek3 bt3 ⊢
    -- slots
    refine ⟨_, rfl, by decide, by decide, fun DT hDT => ?_⟩
    refine comp_rangeA hDT (n := 60) (fun _ => .lst ((List.range many).map fun _ => V.non)) (by decide) (fun i H' hi sx Q' q => ?_) (fun G7 asT sg7 hDTc lnT ndT nDT hTc => ?_)
    · refine ⟨one_sz, fun t3 ht3 => ?_⟩
      have u3b : Same H' (upd H' t3 (.lst [.non])) := same_new ht3
      have ht3c : upd H' t3 (.lst [.non]) t3 = some (.lst [.non]) := upd_same
      generalize upd H' t3 (.lst [.non]) = Hb at u3b ht3c ⊢
      refine ⟨_, rfl, t3, _, _, rfl, rfl, ht3c, by omega, by omega, by rw [Int.toNat_natCast]; exact sz_le (by show 1 * many ≤ 1000000; omega), fun l hl => ?_⟩
      rw [Int.toNat_natCast, rep_flat]
      exact q l _ (u3b.free hl) (u3b.trans (same_new hl)) upd_same
    have wd7 := sg7 _ _ ek3
    refine ⟨_, rfl, wd, _, rfl, DPut.k (k := Sum.inr "slots") wd7 (by show 3 < sizeLine; decide), ?_⟩
    have ek4 : upd G7 wd (.dK (putK [(.inr "seats", .ref DS), (.inr "faults", .ref F), (.inr "masks", .ref md)] (Sum.inr "slots") (.ref DT))) wd = some (.dK [(.inr "seats", .ref DS), (.inr "faults", .ref F), (.inr "masks", .ref md), (.inr "slots", .ref DT)]) := upd_same
    have bt4 : ∀ b o, b ≠ wd → G7 b = some o → upd G7 wd (.dK (putK [(.inr "seats", .ref DS), (.inr "faults", .ref F), (.inr "masks", .ref md)] (Sum.inr "slots") (.ref DT))) b = some o := fun b o hb e => by rw [upd_ne hb]; exact e
    generalize upd G7 wd (.dK (putK [(.inr "seats", .ref DS), (.inr "faults", .ref F), (.inr "masks", .ref md)] (Sum.inr "slots") (.ref DT))) = G8 at ek4 bt4 ⊢
    -- the world stands
    have c6 : ∀ {b : Addr} {o : HO}, b ≠ wd → G6 b = some o → G8 b = some o := fun h e => bt4 _ _ h (sg7 _ _ e)
    have c5 : ∀ {b : Addr} {o : HO}, b ≠ wd → b ≠ md → G5c b = some o → G8 b = some o := fun h h2 e => c6 h (bt3 _ _ h (bt2 _ _ h2 e))
    have c4 : ∀ {b : Addr} {o : HO}, b ≠ wd → b ≠ md → G4 b = some o → G8 b = some o := fun h h2 e => c5 h h2 (umk _ _ (u2b _ _ (umd _ _ e)))
    have c3 : ∀ {b : Addr} {o : HO}, b ≠ wd → b ≠ md → G3b b = some o → G8 b = some o := fun h h2 e => c4 h h2 (bt1 _ _ h (uF _ _ e))
    have nmd : ∀ {b : Addr} {o : HO}, b ≠ wd → G3b b = some o → b ≠ md := fun h e => ne_of_none (bt1 _ _ h (uF _ _ e)) hmd
    have c2 : ∀ {b : Addr} {o : HO}, b ≠ wd → G2 b = some o → G8 b = some o := fun h e => c3 h (nmd h (u1 _ _ (sg3 _ _ e))) (u1 _ _ (sg3 _ _ e))
    have c1 : ∀ {b : Addr} {o : HO}, H3 b = some o → G8 b = some o := fun e => c2 (ne_of_none e hwd) (w1 _ _ e)
    have wdG5b : G5b wd = some (.dK [(.inr "seats", .ref DS), (.inr "faults", .ref F)]) := u2b _ _ (umd _ _ ek1)
    have mdG5b : G5b md = some (.dK []) := u2b _ _ mdc
    have mdG6 : G6 md = some (.dK [(.inl 0, .ref mk)]) := bt3 _ _ hwm.symm ek2
    have nSw : ∀ {b : Addr}, G2 b = none → b ≠ wd := fun h z => by rw [z, wdc] at h; cases h
    have nTw : ∀ {b : Addr}, G6 b = none → b ≠ wd := fun h z => by rw [z, ek3] at h; cases h
    have nTm : ∀ {b : Addr}, G6 b = none → b ≠ md := fun h z => by rw [z, mdG6] at h; cases h
    have mkw : mk ≠ wd := fun z => by rw [z, wdG5b] at hmk; cases hmk
    have mkm : mk ≠ md := fun z => by rw [z, mdG5b] at hmk; cases hmk
    have Fw : F ≠ wd := fun z => by rw [z, u1 _ _ (sg3 _ _ wdc)] at hF; cases hF
    have Fm : F ≠ md := ne_of_none (bt1 _ _ Fw hFc) hmd
    have wfW := WS0.wf (nse := 8 / g0) P hn8 hlo'
    have mS : ∀ x ∈ asS, ∃ q : Nat, asS[q]? = some x := fun x hx => List.mem_iff_getElem?.mp hx
    have mT : ∀ x ∈ asT, ∃ q : Nat, asT[q]? = some x := fun x hx => List.mem_iff_getElem?.mp hx
    have mA : ∀ x ∈ as, ∃ q : Nat, as[q]? = some x := fun x hx => List.mem_iff_getElem?.mp hx
    have AW : WA H (adW pl as DS asS F wd mk md DT asT) (WS0 (8 / g0) many ln pr) G8 := by
      refine WA.build wfW (fun n => match n with | 0 => H | 1 => H3 | 2 => G2 | 3 => G3b | 4 => G4 | 5 => G5b | 6 => G6 | _ => G7) ?mono hpl ⟨_, hpl3⟩ (fun x hx => by obtain ⟨q, hq⟩ := mA x hx; exact (hA' q x hq).1) (fun x hx => by obtain ⟨q, hq⟩ := mA x hx; exact ⟨_, hA3 q x hq⟩) hand hpa hal
        hDS ⟨_, u1 _ _ hDSc⟩ (fun x hx => by obtain ⟨q, hq⟩ := mS x hx; exact (hSc q x hq).1) (fun x hx => by obtain ⟨q, hq⟩ := mS x hx; exact ⟨_, u1 _ _ (hSc q x hq).2⟩) ndS nDS lnS
        hF ⟨_, bt1 _ _ Fw hFc⟩ hwd ⟨_, wdc⟩ hmk ⟨_, bt3 _ _ mkw (bt2 _ _ mkm hmkc)⟩ hmd ⟨_, mdG5b⟩
        hDT ⟨_, hDTc⟩ (fun x hx => by obtain ⟨q, hq⟩ := mT x hx; exact (hTc q x hq).1) (fun x hx => by obtain ⟨q, hq⟩ := mT x hx; exact ⟨_, (hTc q x hq).2⟩) ndT nDT lnT
        (fun b o e => ⟨o, e⟩) (fun b o e => c1 (s3 _ _ e)) (c1 hpl3) (fun r x h => c1 (hA3 r x h)) (c3 (nSw hDS) (nmd (nSw hDS) (u1 _ _ hDSc)) (u1 _ _ hDSc)) (fun q x h => ?sc)
        (c4 Fw Fm (bt1 _ _ Fw hFc)) ek4 (c5 mkw mkm hmkc) (c6 hwm.symm mdG6) (bt4 _ _ (nTw hDT) hDTc) (fun q x h => ?tc)
      case mono =>
        intro t b o e
        match t, e with
        | 0, e => exact ⟨o, s3 _ _ e⟩
        | 1, e => exact ⟨o, w1 _ _ e⟩
        | 2, e => exact ⟨o, u1 _ _ (sg3 _ _ e)⟩
        | 3, e => exact bt_mono bt1 ek1 b o (uF _ _ e)
        | 4, e => exact ⟨o, u2b _ _ (umd _ _ e)⟩
        | 5, e =>
          obtain ⟨o1, h1⟩ := bt_mono bt2 ek2 b o (umk _ _ e)
          exact bt_mono bt3 ek3 b o1 h1
        | 6, e => exact ⟨o, sg7 _ _ e⟩
        | n + 7, e => exact ⟨o, e⟩
      case sc =>
        have h5 := hSc q x h
        exact c3 (nSw h5.1) (nmd (nSw h5.1) (u1 _ _ h5.2)) (u1 _ _ h5.2)
      case tc =>
        have h5 := hTc q x h
        exact bt4 _ _ (nTw h5.1) h5.2
    have hout : ∀ {b : Addr} {o : HO}, H3 b = some o → b ≠ pl → b ∉ as → ∀ r, (WS0 (8 / g0) many ln pr).rok r = true → b ≠ adW pl as DS asS F wd mk md DT asT r := fun {b o} e n0 n1 => by
      have hw : b ≠ wd := ne_of_none e hwd
      have e2 := w1 _ _ e
      have e3 := u1 _ _ (sg3 _ _ e2)
      have e4 := bt1 _ _ hw (uF _ _ e3)
      have hm := ne_of_none e4 hmd
      have e5 := u2b _ _ (umd _ _ e4)
      have e6 := bt3 _ _ hw (bt2 _ _ hm (umk _ _ e5))
      refine adW_out hal lnS lnT n0 n1 (ne_of_none e2 hDS) (fun z => ?_) (ne_of_none e3 hF) hw (ne_of_none e5 hmk) hm (ne_of_none e6 hDT) (fun z => ?_)
      · obtain ⟨q, hq⟩ := mS b z
        exact ne_of_none e2 (hSc q b hq).1 rfl
      · obtain ⟨q, hq⟩ := mT b z
        exact ne_of_none e6 (hTc q b hq).1 rfl
    have llo := hout (u3 _ _ hllc) (ne_of_none hplc hll).symm (fun z => by
      obtain ⟨q, hq⟩ := mA ll z
      exact ne_of_none (hA' q ll hq).2 hll rfl)
    have lgo := hout hgc (ne_of_none (u2 _ _ hplc) hlg).symm (fun z => by
      obtain ⟨q, hq⟩ := mA lg z
      exact ne_of_none (u2 _ _ (hA' q lg hq).2) hlg rfl)
    refine ⟨_, _, ns, many, g0, g1, la0, la1, ln, pr, a, ll, lg, _, _, ⟨AW.rebase, AW.back.seq hS, hns, (offW_out llo).trans (c1 (u3 _ _ hllc)), (offW_out lgo).trans (c1 hgc), hla0, hla1, g03, g13, gle, P, hlo'⟩, rfl, kQ⟩
theorem cal_law {P : Program} {w : World} {K : PySem.W.Frag} {mg : Str → Option Value} {base : Heap} (T : Txt w K mg) : Cal P w K mg base 13 "law" ["_law_script"] (sp_law K) := ⟨_, _, ok_law T, T.g_law, T.f_law.kp, T.f_law.bindsN (ps := ["_law_script"]) fun _ _ _ _ _ _ us hl => match us, hl with | [_], _ => rfl⟩
end Rb
end
set_option Elab.async false
set_option linter.all false
set_option maxRecDepth 100000
open PySem PySem.W PyProof.Rows
set_option maxHeartbeats 4000000 in
theorem PySem.Challenge.cw_rowbreadth_k42_whole_strips_at_any_bread_holds : PySem.Challenge.rw_rowbreadth_k42_whole_strips_at_any_bread.Holds := by
  refine rb_holds (fun w K mg T => ⟨Rb.fdOf K (Rb.ad_law K), Rb.sp_law K, ?_, ?_, ?_⟩)
  · exact fun s u => T.f_law.bindsA (ps := ["_law_script"]) (fun _ _ _ _ _ _ us hl => match us, hl with | [_], _ => rfl) s [u] rfl
  · intro H a ns h hS
    exact ⟨a, ns, rfl, h, hS, fun _ => rfl⟩
  · intro base _ _
    exact (Rb.ok_law T).mono (by decide)
