import PyProof.Rows.All
import Wide.All
import OpenK.AllK
import Wide.FinOn
import KE.KStateDown
import Lean
import HandS.ForMost
import HandS.Exc
import HandS.WordsExc
import HandS.Defaults
import HandS.Property
import HandS.Lambda
import HandS.EndTab
import HandS.HeadWalk
import HandS.NestedK
import HandS.Head0
import HandS.Head1
import HandS.Head2
import HandS.HeadHook1
import HandS.HeadHook2
import HandS.HeadHook3
import HandS.HeadHook4
import HandS.HeadNt
import PySem.Challenge.RW_keepbefore_k33_whole_nothing_kept_is_not
import HandS.NoneIn
import HandS.Walk
import HandS.Zip
import HandS.IsInst
import HandS.SortRule
import HandS.SortInts
import HandS.TupAny
import HandS.Small
import HandS.Style
import HandS.Strs
import HandS.DictComp
import HandS.Conv
import HandS.MakeKwOnly
import KE.DatumOrd
import KE.GoesMore
import KE.GoesEnum
import PyProof.Claim2Refuses
set_option Elab.async false
set_option linter.all false
set_option maxRecDepth 100000
set_option maxHeartbeats 4000000
namespace Kb
open PySem PySem.Spec PyProof.Rows L2
def top (i : Nat) : Stmt := PySem.Challenge.pw_keepbefore_k33_whole_nothing_kept_is_not.main.body.getD i (.Pass ⟨0, 0, 0, 0⟩)
abbrev s_P_is_int : Stmt := top 14
abbrev s_P_is_int_in : Stmt := top 15
abbrev s_P_are_ascending : Stmt := top 16
abbrev s_D_init : Stmt := inClass (top 19) 0
abbrev s_D_check : Stmt := inClass (top 19) 1
abbrev s_D_read : Stmt := inClass (top 19) 2
abbrev s_D_write : Stmt := inClass (top 19) 3
abbrev s_D_sync : Stmt := inClass (top 19) 4
abbrev s_D_after_failure : Stmt := inClass (top 19) 5
abbrev s_D_fail : Stmt := inClass (top 19) 6
abbrev s_D_pending : Stmt := inClass (top 19) 10
abbrev s_Rr_init : Stmt := inClass (top 46) 0
abbrev s_Rr_writing : Stmt := inClass (top 46) 1
abbrev s_Rr_reading : Stmt := inClass (top 46) 2
abbrev s_Rr_choice : Stmt := inClass (top 46) 3
abbrev s_Rr_bound : Stmt := inClass (top 46) 4
abbrev s_P_check_recipe : Stmt := top 47
abbrev s_Rc_init : Stmt := inClass (top 48) 0
abbrev s_Rc_clean : Stmt := inClass (top 48) 5
abbrev s_P_recipe_of : Stmt := top 49
abbrev s_P_check_sizes : Stmt := top 55
abbrev s_P_best_dirty : Stmt := top 56
abbrev s_P_init : Stmt := inClass (top 57) 0
abbrev s_P_need_on : Stmt := inClass (top 57) 1
abbrev s_P_check_block : Stmt := inClass (top 57) 2
abbrev s_P_turn_off : Stmt := inClass (top 57) 3
abbrev s_P_step : Stmt := inClass (top 57) 4
abbrev s_P_write_slow : Stmt := inClass (top 57) 5
abbrev s_P_sync_slow : Stmt := inClass (top 57) 6
abbrev s_P_write_fast : Stmt := inClass (top 57) 7
abbrev s_P_sync_fast : Stmt := inClass (top 57) 8
abbrev s_P_slot_of : Stmt := inClass (top 57) 9
abbrev s_P_begin : Stmt := inClass (top 57) 10
abbrev s_P_put : Stmt := inClass (top 57) 11
abbrev s_P_dirty_slots : Stmt := inClass (top 57) 12
abbrev s_P_chosen : Stmt := inClass (top 57) 13
abbrev s_P_take : Stmt := inClass (top 57) 14
abbrev s_P_clean_slot : Stmt := inClass (top 57) 15
abbrev s_P_read : Stmt := inClass (top 57) 16
abbrev s_P_write : Stmt := inClass (top 57) 17
abbrev s_P_carry_out : Stmt := inClass (top 57) 18
abbrev s_P_keep_bound : Stmt := inClass (top 57) 19
abbrev s_P_cut : Stmt := inClass (top 57) 25
abbrev s_P_restart : Stmt := inClass (top 57) 26
abbrev s_P_learn : Stmt := inClass (top 57) 27
abbrev s_P_block_values : Stmt := inClass (top 57) 31
abbrev s_P_known : Stmt := inClass (top 57) 32
abbrev s_P_dirty : Stmt := inClass (top 57) 33
abbrev s_P_hits : Stmt := inClass (top 57) 34
abbrev s_P_requests : Stmt := inClass (top 57) 35
abbrev s_P_counts : Stmt := inClass (top 57) 37
abbrev s_P_pending : Stmt := inClass (top 57) 38
abbrev s_P_is_on : Stmt := inClass (top 57) 39
abbrev s_L_random : Stmt := top 59
abbrev s_L_safe : Stmt := top 60
abbrev s_L_below : Stmt := top 61
abbrev s_L_shuffled : Stmt := top 62
abbrev s_L_recipe : Stmt := top 63
abbrev s_L_recipes : Stmt := top 64
abbrev s_L_rules : Stmt := top 65
abbrev s_L_pair : Stmt := top 66
abbrev s_L_disk : Stmt := top 67
abbrev s_L_new : Stmt := top 68
abbrev s_L_both : Stmt := top 69
abbrev s_L_slot : Stmt := top 70
abbrev s_L_begin : Stmt := top 71
abbrev s_L_oldest : Stmt := top 72
abbrev s_L_clean : Stmt := top 73
abbrev s_L_take : Stmt := top 74
abbrev s_L_know : Stmt := top 75
abbrev s_L_read : Stmt := top 76
abbrev s_L_word : Stmt := top 77
abbrev s_L_write : Stmt := top 78
abbrev s_L_plan : Stmt := top 79
abbrev s_L_sync : Stmt := top 80
abbrev s_L_put : Stmt := top 81
abbrev s_L_go : Stmt := top 82
abbrev s_L_power_of : Stmt := top 83
abbrev s_L_do : Stmt := top 84
abbrev s_L_equal : Stmt := top 85
abbrev s_L_same : Stmt := top 86
abbrev s_L_request : Stmt := top 87
abbrev s_L_fail : Stmt := top 88
abbrev s_L_best : Stmt := top 89
abbrev s_L_restart : Stmt := top 90
abbrev s_L_counts : Stmt := top 91
abbrev s_L_values : Stmt := top 92
abbrev s_L_shown : Stmt := top 93
abbrev s_L_stands : Stmt := top 94
abbrev s_L_main : Stmt := top 95
/-- a property's getter -/
def gf (K : PySem.W.Frag) (p : Addr) : Addr := match PySem.W.recIn K p "property" with
  | some (.ref f :: _) => f
  | _ => 0
def d_P_is_int : He5.DefA := ⟨fun K => He.ga K "is_int", "is_int", "is_int", defArgs s_P_is_int, defBody s_P_is_int, defScope s_P_is_int, [], []⟩
def d_P_is_int_in : He5.DefA := ⟨fun K => He.ga K "is_int_in", "is_int_in", "is_int_in", defArgs s_P_is_int_in, defBody s_P_is_int_in, defScope s_P_is_int_in, [], []⟩
def d_P_are_ascending : He5.DefA := ⟨fun K => He.ga K "are_ascending", "are_ascending", "are_ascending", defArgs s_P_are_ascending, defBody s_P_are_ascending, defScope s_P_are_ascending, [], []⟩
def d_D_init : He5.DefA := ⟨fun K => He.ma K (He.ga K "Disk") "__init__", "__init__", "Disk.__init__", defArgs s_D_init, defBody s_D_init, defScope s_D_init, [], [("content", .int 0)]⟩
def d_D_check : He5.DefA := ⟨fun K => He.ma K (He.ga K "Disk") "check", "check", "Disk.check", defArgs s_D_check, defBody s_D_check, defScope s_D_check, [], []⟩
def d_D_read : He5.DefA := ⟨fun K => He.ma K (He.ga K "Disk") "read", "read", "Disk.read", defArgs s_D_read, defBody s_D_read, defScope s_D_read, [], []⟩
def d_D_write : He5.DefA := ⟨fun K => He.ma K (He.ga K "Disk") "write", "write", "Disk.write", defArgs s_D_write, defBody s_D_write, defScope s_D_write, [], []⟩
def d_D_sync : He5.DefA := ⟨fun K => He.ma K (He.ga K "Disk") "sync", "sync", "Disk.sync", defArgs s_D_sync, defBody s_D_sync, defScope s_D_sync, [], []⟩
def d_D_after_failure : He5.DefA := ⟨fun K => He.ma K (He.ga K "Disk") "after_failure", "after_failure", "Disk.after_failure", defArgs s_D_after_failure, defBody s_D_after_failure, defScope s_D_after_failure, [], []⟩
def d_D_fail : He5.DefA := ⟨fun K => He.ma K (He.ga K "Disk") "fail", "fail", "Disk.fail", defArgs s_D_fail, defBody s_D_fail, defScope s_D_fail, [], []⟩
def d_D_pending : He5.DefA := ⟨fun K => gf K (He.ma K (He.ga K "Disk") "pending"), "pending", "Disk.pending", defArgs s_D_pending, defBody s_D_pending, defScope s_D_pending, [], []⟩
def d_Rr_init : He5.DefA := ⟨fun K => He.ma K (He.ga K "Rules") "__init__", "__init__", "Rules.__init__", defArgs s_Rr_init, defBody s_Rr_init, defScope s_Rr_init, [], []⟩
def d_Rr_writing : He5.DefA := ⟨fun K => gf K (He.ma K (He.ga K "Rules") "writing"), "writing", "Rules.writing", defArgs s_Rr_writing, defBody s_Rr_writing, defScope s_Rr_writing, [], []⟩
def d_Rr_reading : He5.DefA := ⟨fun K => gf K (He.ma K (He.ga K "Rules") "reading"), "reading", "Rules.reading", defArgs s_Rr_reading, defBody s_Rr_reading, defScope s_Rr_reading, [], []⟩
def d_Rr_choice : He5.DefA := ⟨fun K => gf K (He.ma K (He.ga K "Rules") "choice"), "choice", "Rules.choice", defArgs s_Rr_choice, defBody s_Rr_choice, defScope s_Rr_choice, [], []⟩
def d_Rr_bound : He5.DefA := ⟨fun K => gf K (He.ma K (He.ga K "Rules") "bound"), "bound", "Rules.bound", defArgs s_Rr_bound, defBody s_Rr_bound, defScope s_Rr_bound, [], []⟩
def d_P_check_recipe : He5.DefA := ⟨fun K => He.ga K "check_recipe", "check_recipe", "check_recipe", defArgs s_P_check_recipe, defBody s_P_check_recipe, defScope s_P_check_recipe, [], []⟩
def d_Rc_init : He5.DefA := ⟨fun K => He.ma K (He.ga K "Recipes") "__init__", "__init__", "Recipes.__init__", defArgs s_Rc_init, defBody s_Rc_init, defScope s_Rc_init, [], []⟩
def d_Rc_clean : He5.DefA := ⟨fun K => gf K (He.ma K (He.ga K "Recipes") "clean"), "clean", "Recipes.clean", defArgs s_Rc_clean, defBody s_Rc_clean, defScope s_Rc_clean, [], []⟩
def d_P_recipe_of : He5.DefA := ⟨fun K => He.ga K "recipe_of", "recipe_of", "recipe_of", defArgs s_P_recipe_of, defBody s_P_recipe_of, defScope s_P_recipe_of, [], []⟩
def d_P_check_sizes : He5.DefA := ⟨fun K => He.ga K "check_sizes", "check_sizes", "check_sizes", defArgs s_P_check_sizes, defBody s_P_check_sizes, defScope s_P_check_sizes, [.int 16, .int 8], []⟩
def d_P_best_dirty : He5.DefA := ⟨fun K => He.ga K "best_dirty", "best_dirty", "best_dirty", defArgs s_P_best_dirty, defBody s_P_best_dirty, defScope s_P_best_dirty, [], []⟩
def d_P_init : He5.DefA := ⟨fun K => He.ma K (He.ga K "Pair") "__init__", "__init__", "Pair.__init__", defArgs s_P_init, defBody s_P_init, defScope s_P_init, [], [("recipes", .non)]⟩
def d_P_need_on : He5.DefA := ⟨fun K => He.ma K (He.ga K "Pair") "need_on", "need_on", "Pair.need_on", defArgs s_P_need_on, defBody s_P_need_on, defScope s_P_need_on, [], []⟩
def d_P_check_block : He5.DefA := ⟨fun K => He.ma K (He.ga K "Pair") "check_block", "check_block", "Pair.check_block", defArgs s_P_check_block, defBody s_P_check_block, defScope s_P_check_block, [], []⟩
def d_P_turn_off : He5.DefA := ⟨fun K => He.ma K (He.ga K "Pair") "turn_off", "turn_off", "Pair.turn_off", defArgs s_P_turn_off, defBody s_P_turn_off, defScope s_P_turn_off, [], []⟩
def d_P_step : He5.DefA := ⟨fun K => He.ma K (He.ga K "Pair") "step", "step", "Pair.step", defArgs s_P_step, defBody s_P_step, defScope s_P_step, [], []⟩
def d_P_write_slow : He5.DefA := ⟨fun K => He.ma K (He.ga K "Pair") "write_slow", "write_slow", "Pair.write_slow", defArgs s_P_write_slow, defBody s_P_write_slow, defScope s_P_write_slow, [], []⟩
def d_P_sync_slow : He5.DefA := ⟨fun K => He.ma K (He.ga K "Pair") "sync_slow", "sync_slow", "Pair.sync_slow", defArgs s_P_sync_slow, defBody s_P_sync_slow, defScope s_P_sync_slow, [], []⟩
def d_P_write_fast : He5.DefA := ⟨fun K => He.ma K (He.ga K "Pair") "write_fast", "write_fast", "Pair.write_fast", defArgs s_P_write_fast, defBody s_P_write_fast, defScope s_P_write_fast, [], []⟩
def d_P_sync_fast : He5.DefA := ⟨fun K => He.ma K (He.ga K "Pair") "sync_fast", "sync_fast", "Pair.sync_fast", defArgs s_P_sync_fast, defBody s_P_sync_fast, defScope s_P_sync_fast, [], []⟩
def d_P_slot_of : He5.DefA := ⟨fun K => He.ma K (He.ga K "Pair") "slot_of", "slot_of", "Pair.slot_of", defArgs s_P_slot_of, defBody s_P_slot_of, defScope s_P_slot_of, [], []⟩
def d_P_begin : He5.DefA := ⟨fun K => He.ma K (He.ga K "Pair") "begin", "begin", "Pair.begin", defArgs s_P_begin, defBody s_P_begin, defScope s_P_begin, [], []⟩
def d_P_put : He5.DefA := ⟨fun K => He.ma K (He.ga K "Pair") "put", "put", "Pair.put", defArgs s_P_put, defBody s_P_put, defScope s_P_put, [], []⟩
def d_P_dirty_slots : He5.DefA := ⟨fun K => He.ma K (He.ga K "Pair") "dirty_slots", "dirty_slots", "Pair.dirty_slots", defArgs s_P_dirty_slots, defBody s_P_dirty_slots, defScope s_P_dirty_slots, [], []⟩
def d_P_chosen : He5.DefA := ⟨fun K => He.ma K (He.ga K "Pair") "chosen", "chosen", "Pair.chosen", defArgs s_P_chosen, defBody s_P_chosen, defScope s_P_chosen, [], []⟩
def d_P_take : He5.DefA := ⟨fun K => He.ma K (He.ga K "Pair") "take", "take", "Pair.take", defArgs s_P_take, defBody s_P_take, defScope s_P_take, [], []⟩
def d_P_clean_slot : He5.DefA := ⟨fun K => He.ma K (He.ga K "Pair") "clean_slot", "clean_slot", "Pair.clean_slot", defArgs s_P_clean_slot, defBody s_P_clean_slot, defScope s_P_clean_slot, [], []⟩
def d_P_read : He5.DefA := ⟨fun K => He.ma K (He.ga K "Pair") "read", "read", "Pair.read", defArgs s_P_read, defBody s_P_read, defScope s_P_read, [], []⟩
def d_P_write : He5.DefA := ⟨fun K => He.ma K (He.ga K "Pair") "write", "write", "Pair.write", defArgs s_P_write, defBody s_P_write, defScope s_P_write, [], []⟩
def d_P_carry_out : He5.DefA := ⟨fun K => He.ma K (He.ga K "Pair") "carry_out", "carry_out", "Pair.carry_out", defArgs s_P_carry_out, defBody s_P_carry_out, defScope s_P_carry_out, [], []⟩
def d_P_keep_bound : He5.DefA := ⟨fun K => He.ma K (He.ga K "Pair") "keep_bound", "keep_bound", "Pair.keep_bound", defArgs s_P_keep_bound, defBody s_P_keep_bound, defScope s_P_keep_bound, [], []⟩
def d_P_cut : He5.DefA := ⟨fun K => He.ma K (He.ga K "Pair") "cut", "cut", "Pair.cut", defArgs s_P_cut, defBody s_P_cut, defScope s_P_cut, [], []⟩
def d_P_restart : He5.DefA := ⟨fun K => He.ma K (He.ga K "Pair") "restart", "restart", "Pair.restart", defArgs s_P_restart, defBody s_P_restart, defScope s_P_restart, [], []⟩
def d_P_learn : He5.DefA := ⟨fun K => He.ma K (He.ga K "Pair") "learn", "learn", "Pair.learn", defArgs s_P_learn, defBody s_P_learn, defScope s_P_learn, [], []⟩
def d_P_block_values : He5.DefA := ⟨fun K => gf K (He.ma K (He.ga K "Pair") "block_values"), "block_values", "Pair.block_values", defArgs s_P_block_values, defBody s_P_block_values, defScope s_P_block_values, [], []⟩
def d_P_known : He5.DefA := ⟨fun K => gf K (He.ma K (He.ga K "Pair") "known"), "known", "Pair.known", defArgs s_P_known, defBody s_P_known, defScope s_P_known, [], []⟩
def d_P_dirty : He5.DefA := ⟨fun K => gf K (He.ma K (He.ga K "Pair") "dirty"), "dirty", "Pair.dirty", defArgs s_P_dirty, defBody s_P_dirty, defScope s_P_dirty, [], []⟩
def d_P_hits : He5.DefA := ⟨fun K => gf K (He.ma K (He.ga K "Pair") "hits"), "hits", "Pair.hits", defArgs s_P_hits, defBody s_P_hits, defScope s_P_hits, [], []⟩
def d_P_requests : He5.DefA := ⟨fun K => gf K (He.ma K (He.ga K "Pair") "requests"), "requests", "Pair.requests", defArgs s_P_requests, defBody s_P_requests, defScope s_P_requests, [], []⟩
def d_P_counts : He5.DefA := ⟨fun K => gf K (He.ma K (He.ga K "Pair") "counts"), "counts", "Pair.counts", defArgs s_P_counts, defBody s_P_counts, defScope s_P_counts, [], []⟩
def d_P_pending : He5.DefA := ⟨fun K => gf K (He.ma K (He.ga K "Pair") "pending"), "pending", "Pair.pending", defArgs s_P_pending, defBody s_P_pending, defScope s_P_pending, [], []⟩
def d_P_is_on : He5.DefA := ⟨fun K => gf K (He.ma K (He.ga K "Pair") "is_on"), "is_on", "Pair.is_on", defArgs s_P_is_on, defBody s_P_is_on, defScope s_P_is_on, [], []⟩
def d_L_random : He5.DefA := ⟨fun K => He.ga K "_law_random", "_law_random", "_law_random", defArgs s_L_random, defBody s_L_random, defScope s_L_random, [], []⟩
def d_L_safe : He5.DefA := ⟨fun K => He.ga K "_law_safe", "_law_safe", "_law_safe", defArgs s_L_safe, defBody s_L_safe, defScope s_L_safe, [], []⟩
def d_L_below : He5.DefA := ⟨fun K => He.ga K "_law_below", "_law_below", "_law_below", defArgs s_L_below, defBody s_L_below, defScope s_L_below, [], []⟩
def d_L_shuffled : He5.DefA := ⟨fun K => He.ga K "_law_shuffled", "_law_shuffled", "_law_shuffled", defArgs s_L_shuffled, defBody s_L_shuffled, defScope s_L_shuffled, [], []⟩
def d_L_recipe : He5.DefA := ⟨fun K => He.ga K "_law_recipe", "_law_recipe", "_law_recipe", defArgs s_L_recipe, defBody s_L_recipe, defScope s_L_recipe, [], []⟩
def d_L_recipes : He5.DefA := ⟨fun K => He.ga K "_law_recipes", "_law_recipes", "_law_recipes", defArgs s_L_recipes, defBody s_L_recipes, defScope s_L_recipes, [], []⟩
def d_L_rules : He5.DefA := ⟨fun K => He.ga K "_law_rules", "_law_rules", "_law_rules", defArgs s_L_rules, defBody s_L_rules, defScope s_L_rules, [], []⟩
def d_L_pair : He5.DefA := ⟨fun K => He.ga K "_law_pair", "_law_pair", "_law_pair", defArgs s_L_pair, defBody s_L_pair, defScope s_L_pair, [], []⟩
def d_L_disk : He5.DefA := ⟨fun K => He.ga K "_law_disk", "_law_disk", "_law_disk", defArgs s_L_disk, defBody s_L_disk, defScope s_L_disk, [], []⟩
def d_L_new : He5.DefA := ⟨fun K => He.ga K "_law_new", "_law_new", "_law_new", defArgs s_L_new, defBody s_L_new, defScope s_L_new, [], []⟩
def d_L_both : He5.DefA := ⟨fun K => He.ga K "_law_both", "_law_both", "_law_both", defArgs s_L_both, defBody s_L_both, defScope s_L_both, [], []⟩
def d_L_slot : He5.DefA := ⟨fun K => He.ga K "_law_slot", "_law_slot", "_law_slot", defArgs s_L_slot, defBody s_L_slot, defScope s_L_slot, [], []⟩
def d_L_begin : He5.DefA := ⟨fun K => He.ga K "_law_begin", "_law_begin", "_law_begin", defArgs s_L_begin, defBody s_L_begin, defScope s_L_begin, [], []⟩
def d_L_oldest : He5.DefA := ⟨fun K => He.ga K "_law_oldest", "_law_oldest", "_law_oldest", defArgs s_L_oldest, defBody s_L_oldest, defScope s_L_oldest, [], []⟩
def d_L_clean : He5.DefA := ⟨fun K => He.ga K "_law_clean", "_law_clean", "_law_clean", defArgs s_L_clean, defBody s_L_clean, defScope s_L_clean, [], []⟩
def d_L_take : He5.DefA := ⟨fun K => He.ga K "_law_take", "_law_take", "_law_take", defArgs s_L_take, defBody s_L_take, defScope s_L_take, [], []⟩
def d_L_know : He5.DefA := ⟨fun K => He.ga K "_law_know", "_law_know", "_law_know", defArgs s_L_know, defBody s_L_know, defScope s_L_know, [], []⟩
def d_L_read : He5.DefA := ⟨fun K => He.ga K "_law_read", "_law_read", "_law_read", defArgs s_L_read, defBody s_L_read, defScope s_L_read, [], []⟩
def d_L_word : He5.DefA := ⟨fun K => He.ga K "_law_word", "_law_word", "_law_word", defArgs s_L_word, defBody s_L_word, defScope s_L_word, [], []⟩
def d_L_write : He5.DefA := ⟨fun K => He.ga K "_law_write", "_law_write", "_law_write", defArgs s_L_write, defBody s_L_write, defScope s_L_write, [], []⟩
def d_L_plan : He5.DefA := ⟨fun K => He.ga K "_law_plan", "_law_plan", "_law_plan", defArgs s_L_plan, defBody s_L_plan, defScope s_L_plan, [], []⟩
def d_L_sync : He5.DefA := ⟨fun K => He.ga K "_law_sync", "_law_sync", "_law_sync", defArgs s_L_sync, defBody s_L_sync, defScope s_L_sync, [], []⟩
def d_L_put : He5.DefA := ⟨fun K => He.ga K "_law_put", "_law_put", "_law_put", defArgs s_L_put, defBody s_L_put, defScope s_L_put, [], []⟩
def d_L_go : He5.DefA := ⟨fun K => He.ga K "_law_go", "_law_go", "_law_go", defArgs s_L_go, defBody s_L_go, defScope s_L_go, [], []⟩
def d_L_power_of : He5.DefA := ⟨fun K => He.ga K "_law_power_of", "_law_power_of", "_law_power_of", defArgs s_L_power_of, defBody s_L_power_of, defScope s_L_power_of, [], []⟩
def d_L_do : He5.DefA := ⟨fun K => He.ga K "_law_do", "_law_do", "_law_do", defArgs s_L_do, defBody s_L_do, defScope s_L_do, [], []⟩
def d_L_equal : He5.DefA := ⟨fun K => He.ga K "_law_equal", "_law_equal", "_law_equal", defArgs s_L_equal, defBody s_L_equal, defScope s_L_equal, [], []⟩
def d_L_same : He5.DefA := ⟨fun K => He.ga K "_law_same", "_law_same", "_law_same", defArgs s_L_same, defBody s_L_same, defScope s_L_same, [], []⟩
def d_L_request : He5.DefA := ⟨fun K => He.ga K "_law_request", "_law_request", "_law_request", defArgs s_L_request, defBody s_L_request, defScope s_L_request, [], []⟩
def d_L_fail : He5.DefA := ⟨fun K => He.ga K "_law_fail", "_law_fail", "_law_fail", defArgs s_L_fail, defBody s_L_fail, defScope s_L_fail, [], []⟩
def d_L_best : He5.DefA := ⟨fun K => He.ga K "_law_best", "_law_best", "_law_best", defArgs s_L_best, defBody s_L_best, defScope s_L_best, [], []⟩
def d_L_restart : He5.DefA := ⟨fun K => He.ga K "_law_restart", "_law_restart", "_law_restart", defArgs s_L_restart, defBody s_L_restart, defScope s_L_restart, [], []⟩
def d_L_counts : He5.DefA := ⟨fun K => He.ga K "_law_counts", "_law_counts", "_law_counts", defArgs s_L_counts, defBody s_L_counts, defScope s_L_counts, [], []⟩
def d_L_values : He5.DefA := ⟨fun K => He.ga K "_law_values", "_law_values", "_law_values", defArgs s_L_values, defBody s_L_values, defScope s_L_values, [], []⟩
def d_L_shown : He5.DefA := ⟨fun K => He.ga K "_law_shown", "_law_shown", "_law_shown", defArgs s_L_shown, defBody s_L_shown, defScope s_L_shown, [], []⟩
def d_L_stands : He5.DefA := ⟨fun K => He.ga K "_law_stands", "_law_stands", "_law_stands", defArgs s_L_stands, defBody s_L_stands, defScope s_L_stands, [], []⟩
def d_L_main : He5.DefA := ⟨fun K => He.ga K "law", "law", "law", defArgs s_L_main, defBody s_L_main, defScope s_L_main, [], []⟩
def fn0 : List He5.DefA := [d_P_is_int, d_P_is_int_in, d_P_are_ascending, d_D_init, d_D_check, d_D_read, d_D_write, d_D_sync, d_D_after_failure, d_D_fail, d_D_pending, d_Rr_init, d_Rr_writing, d_Rr_reading, d_Rr_choice, d_Rr_bound, d_P_check_recipe, d_Rc_init, d_Rc_clean, d_P_recipe_of, d_P_check_sizes, d_P_best_dirty, d_P_init, d_P_need_on, d_P_check_block, d_P_turn_off, d_P_step, d_P_write_slow, d_P_sync_slow, d_P_write_fast]
def fn1 : List He5.DefA := [d_P_sync_fast, d_P_slot_of, d_P_begin, d_P_put, d_P_dirty_slots, d_P_chosen, d_P_take, d_P_clean_slot, d_P_read, d_P_write, d_P_carry_out, d_P_keep_bound, d_P_cut, d_P_restart, d_P_learn, d_P_block_values, d_P_known, d_P_dirty, d_P_hits, d_P_requests, d_P_counts, d_P_pending, d_P_is_on, d_L_random, d_L_safe, d_L_below, d_L_shuffled, d_L_recipe, d_L_recipes, d_L_rules]
def fn2 : List He5.DefA := [d_L_pair, d_L_disk, d_L_new, d_L_both, d_L_slot, d_L_begin, d_L_oldest, d_L_clean, d_L_take, d_L_know, d_L_read, d_L_word, d_L_write, d_L_plan, d_L_sync, d_L_put, d_L_go, d_L_power_of, d_L_do, d_L_equal, d_L_same, d_L_request, d_L_fail, d_L_best, d_L_restart, d_L_counts, d_L_values, d_L_shown, d_L_stands, d_L_main]
def fn : List He5.DefA := fn0 ++ fn1 ++ fn2
def fa0 : List He.Fa := [.glo "PowerFailed", .glo "is_int", .glo "is_int_in", .glo "are_ascending", .glo "Disk", .glo "Rules", .glo "check_recipe", .glo "Recipes", .glo "recipe_of", .glo "check_sizes", .glo "best_dirty", .glo "Pair", .glo "_law_random", .glo "_law_safe", .glo "_law_below", .glo "_law_shuffled", .glo "_law_recipe", .glo "_law_recipes", .glo "_law_rules", .glo "_law_pair", .glo "_law_disk", .glo "_law_new", .glo "_law_both", .glo "_law_slot", .glo "_law_begin", .glo "_law_oldest", .glo "_law_clean", .glo "_law_take", .glo "_law_know", .glo "_law_read"]
def fa1 : List He.Fa := [.glo "_law_word", .glo "_law_write", .glo "_law_plan", .glo "_law_sync", .glo "_law_put", .glo "_law_go", .glo "_law_power_of", .glo "_law_do", .glo "_law_equal", .glo "_law_same", .glo "_law_request", .glo "_law_fail", .glo "_law_best", .glo "_law_restart", .glo "_law_counts", .glo "_law_values", .glo "_law_shown", .glo "_law_stands", .glo "law", .free "len", .free "range", .free "sorted", .free "min", .free "max", .free "isinstance", .free "int", .free "str", .free "bool", .free "list", .free "tuple"]
def fa2 : List He.Fa := [.free "enumerate", .free "zip", .free "all", .free "abs", .str "THROUGH" "through", .str "BACK" "back", .str "AROUND" "around", .str "CLEAN" "clean", .str "KEEP" "keep", .str "PASS" "pass", .str "USED" "used", .str "CAME" "came", .str "RARE" "rare", .str "SLOW" "slow", .str "SYNC_SLOW" "sync slow", .str "FAST" "fast", .str "SYNC_FAST" "sync fast", .str "FREE" "free", .str "MARK" "mark", .str "DONE" "done", .int "MAX_CELLS" 64, .int "MAX_BOUND" 8, .int "MAX_STEPS" 8, .int "MAX_BLOCKS" 16, .int "MAX_SLOTS" 8, .int "MAX_VALUE" 999, .int "MAX_USES" 9, .cls "Disk", .mkr "Disk", .noat "Disk" "shown"]
def fa3 : List He.Fa := [.noat "Disk" "synced", .noat "Disk" "waiting", .noat "Disk" "tally", .cls "Rules", .mkr "Rules", .noat "Rules" "parts", .cls "Recipes", .mkr "Recipes", .noat "Recipes" "parts", .cls "Pair", .mkr "Pair", .noat "Pair" "slow", .noat "Pair" "fast", .noat "Pair" "past", .noat "Pair" "rule", .noat "Pair" "order", .noat "Pair" "slots", .noat "Pair" "turn", .noat "Pair" "begun", .noat "Pair" "found", .noat "Pair" "left", .noat "Pair" "is_powered", .noat "Pair" "is_done", .noat "Pair" "writes", .meth "Disk" "check", .meth "Disk" "read", .meth "Disk" "write", .meth "Disk" "sync", .meth "Disk" "after_failure", .meth "Disk" "fail"]
def fa4 : List He.Fa := [.meth "Pair" "need_on", .meth "Pair" "check_block", .meth "Pair" "turn_off", .meth "Pair" "step", .meth "Pair" "write_slow", .meth "Pair" "sync_slow", .meth "Pair" "write_fast", .meth "Pair" "sync_fast", .meth "Pair" "slot_of", .meth "Pair" "begin", .meth "Pair" "put", .meth "Pair" "dirty_slots", .meth "Pair" "chosen", .meth "Pair" "take", .meth "Pair" "clean_slot", .meth "Pair" "read", .meth "Pair" "write", .meth "Pair" "carry_out", .meth "Pair" "keep_bound", .meth "Pair" "cut", .meth "Pair" "restart", .meth "Pair" "learn"]
def fa : List He.Fa := fa0 ++ fa1 ++ fa2 ++ fa3 ++ fa4
def propB (K : PySem.W.Frag) (C f : Str) : Bool := He.eqO (PySem.W.findIn K (.ref (He.ga K C)) f) (some (some (.ref (He.ma K (He.ga K C) f)))) &&
  (He.eqO (PySem.W.specialIn K (.ref (He.ma K (He.ga K C) f)) "__get__") (some (some (.builtin "property.__get__"))) && (decide (PySem.W.takesIn K (.ref (He.ma K (He.ga K C) f)) = some true) &&
  (match PySem.W.recIn K (He.ma K (He.ga K C) f) "property" with
  | some (.ref _ :: _) => true
  | _ => false)))
def props : List (Str × Str) := [("Disk", "pending"), ("Rules", "writing"), ("Rules", "reading"), ("Rules", "choice"), ("Rules", "bound"), ("Recipes", "clean"), ("Pair", "block_values"), ("Pair", "known"), ("Pair", "dirty"), ("Pair", "hits"), ("Pair", "requests"), ("Pair", "counts"), ("Pair", "pending"), ("Pair", "is_on")]
/-- the i-th item of the tuple that the module's name x holds -/
def itA (K : PySem.W.Frag) (x : Str) (i : Nat) : Addr := match K.lookup (He.ga K x) with
  | some ⟨_, _, .seq its _, _⟩ => (match its.toList[i]? with
    | some (.ref a) => a
    | _ => 0)
  | _ => 0
def tupA (K : PySem.W.Frag) (a : Addr) (vs : List V) : Bool := match K.lookup a with
  | some ⟨.type c, none, .seq its _, _⟩ => decide (c = "tuple") && (decide (its.size ≤ sizeLine) && He.relAll vs its.toList)
  | _ => false
theorem tupA_all {K : PySem.W.Frag} {a : Addr} {vs : List V} (h : tupA K a vs = true) : (∃ o, K.lookup a = some o ∧ o.cls = .type "tuple" ∧ o.dict = none) ∧ ∀ H : Hp, SqT K H a vs := by
  unfold tupA at h
  cases q : K.lookup a with
  | none =>
    rw [q] at h
    cases h
  | some o =>
    obtain ⟨oc, od, dt, osl⟩ := o
    rw [q] at h
    cases oc with
    | type c =>
      cases od with
      | none =>
        cases dt with
        | seq its n =>
          obtain ⟨h1, h2⟩ := He.ba (show (decide (c = "tuple") && (decide (its.size ≤ sizeLine) && He.relAll vs its.toList)) = true from h)
          obtain ⟨h3, h4⟩ := He.ba h2
          exact ⟨⟨_, rfl, congrArg Value.type (of_decide_eq_true h1), rfl⟩, fun H => .inr ⟨_, its, n, q, congrArg Value.type (of_decide_eq_true h1), rfl, of_decide_eq_true h3, He.relAll_ok h4⟩⟩
        | _ => cases h
      | some _ => cases dt <;> cases h
    | _ => cases od <;> cases dt <;> cases h
theorem tupA_ok {K : PySem.W.Frag} {a : Addr} {vs : List V} (h : tupA K a vs = true) (H : Hp) : SqT K H a vs := (tupA_all h).2 H
def gaB (K : PySem.W.Frag) (x : Str) : Bool := He.eqO (PySem.W.nsIn K mainGlobals x) (some (some (.ref (He.ga K x))))
def tups (K : PySem.W.Frag) : List (Addr × List V) := [
  (He.ga K "WORDS", [.ref (itA K "WORDS" 0), .ref (itA K "WORDS" 1), .ref (itA K "WORDS" 2)]),
  (itA K "WORDS" 0, [.str "through", .str "back", .str "around"]),
  (itA K "WORDS" 1, [.str "keep", .str "pass"]),
  (itA K "WORDS" 2, [.str "used", .str "came", .str "rare"]),
  (He.ga K "KINDS", [.str "through", .str "back", .str "around", .str "clean"]),
  (He.ga K "SYNCS", [.str "sync slow", .str "sync fast"]),
  (He.ga K "WRITE_STEPS", [.str "slow", .str "sync slow", .str "fast", .str "sync fast", .str "free", .str "done"]),
  (He.ga K "CLEAN_STEPS", [.str "slow", .str "sync slow", .str "mark", .str "sync fast"]),
  (He.ga K "STEPS", [.ref (He.ga K "WRITE_STEPS"), .ref (He.ga K "WRITE_STEPS"), .ref (He.ga K "WRITE_STEPS"), .ref (He.ga K "CLEAN_STEPS")])]
def exK (K : PySem.W.Frag) : Bool := (props.all fun p => propB K p.1 p.2) && (((tups K).all fun p => tupA K p.1 p.2) && (["WORDS", "KINDS", "SYNCS", "WRITE_STEPS", "CLEAN_STEPS", "STEPS", "law"].all fun x => gaB K x))
def tf : List He.Defn := [("_law_same", none)]
def looseN0 : List PySem.Str := [("_wall" : PySem.Str), ("PairError" : PySem.Str), ("InvalidSize" : PySem.Str), ("InvalidCell" : PySem.Str), ("InvalidKept" : PySem.Str), ("InvalidBlock" : PySem.Str), ("InvalidValue" : PySem.Str), ("PowerOff" : PySem.Str), ("PowerOn" : PySem.Str), ("InvalidRules" : PySem.Str), ("InvalidRecipes" : PySem.Str), ("PowerFailed" : PySem.Str), ("is_int" : PySem.Str), ("is_int_in" : PySem.Str), ("are_ascending" : PySem.Str), ("MAX_CELLS" : PySem.Str), ("Disk" : PySem.Str), ("THROUGH" : PySem.Str), ("BACK" : PySem.Str), ("AROUND" : PySem.Str), ("CLEAN" : PySem.Str), ("KEEP" : PySem.Str), ("PASS" : PySem.Str), ("USED" : PySem.Str), ("CAME" : PySem.Str), ("RARE" : PySem.Str), ("WORDS" : PySem.Str), ("MAX_BOUND" : PySem.Str), ("KINDS" : PySem.Str), ("SLOW" : PySem.Str), ("SYNC_SLOW" : PySem.Str), ("FAST" : PySem.Str), ("SYNC_FAST" : PySem.Str), ("FREE" : PySem.Str), ("MARK" : PySem.Str)]
def looseN1 : List PySem.Str := [("DONE" : PySem.Str), ("SYNCS" : PySem.Str), ("WRITE_STEPS" : PySem.Str), ("CLEAN_STEPS" : PySem.Str), ("STEPS" : PySem.Str), ("MAX_STEPS" : PySem.Str), ("SAFE" : PySem.Str), ("Rules" : PySem.Str), ("check_recipe" : PySem.Str), ("Recipes" : PySem.Str), ("recipe_of" : PySem.Str), ("MAX_BLOCKS" : PySem.Str), ("MAX_SLOTS" : PySem.Str), ("MAX_VALUE" : PySem.Str), ("MAX_USES" : PySem.Str), ("check_sizes" : PySem.Str), ("best_dirty" : PySem.Str), ("Pair" : PySem.Str), ("_law_random" : PySem.Str), ("_law_safe" : PySem.Str), ("_law_below" : PySem.Str), ("_law_shuffled" : PySem.Str), ("_law_recipe" : PySem.Str), ("_law_recipes" : PySem.Str), ("_law_rules" : PySem.Str), ("_law_pair" : PySem.Str), ("_law_disk" : PySem.Str), ("_law_new" : PySem.Str), ("_law_both" : PySem.Str), ("_law_slot" : PySem.Str), ("_law_begin" : PySem.Str), ("_law_oldest" : PySem.Str), ("_law_clean" : PySem.Str), ("_law_take" : PySem.Str), ("_law_know" : PySem.Str)]
def looseN2 : List PySem.Str := [("_law_read" : PySem.Str), ("_law_word" : PySem.Str), ("_law_write" : PySem.Str), ("_law_plan" : PySem.Str), ("_law_sync" : PySem.Str), ("_law_put" : PySem.Str), ("_law_go" : PySem.Str), ("_law_power_of" : PySem.Str), ("_law_do" : PySem.Str), ("_law_equal" : PySem.Str), ("_law_same" : PySem.Str), ("_law_request" : PySem.Str), ("_law_fail" : PySem.Str), ("_law_best" : PySem.Str), ("_law_restart" : PySem.Str), ("_law_counts" : PySem.Str), ("_law_values" : PySem.Str), ("_law_shown" : PySem.Str), ("_law_stands" : PySem.Str)]
def looseN : List PySem.Str := looseN0 ++ looseN1 ++ looseN2
end Kb
set_option Elab.async false
set_option linter.all false
set_option maxRecDepth 100000
set_option maxHeartbeats 4000000
namespace Kb
open PySem PySem.Spec PyProof.Rows L2
/-! ### the Hook -/
structure SaysG (fa : List He.Fa) (fn : List He5.DefA) (ex : PySem.W.Frag → Bool) (tf : List He.Defn) (h : Heap) (K : PySem.W.Frag) : Prop where
  fa : ∀ f ∈ fa, f.ok K = true
  fn : ∀ d ∈ fn, ∃ fd, L2.FunD K d.name d.qual d.params d.body d.scope (d.dvs K) (d.kws K) (d.at_ K) fd
  ex : ex K = true
  hd : ∀ p ∈ tf, PySem.W.codeHdIn K (He.cT K p).1 (He.cT K p).2 = true
  out : ∀ p ∈ tf, K.lookup (He.cT K p).2 = none
  empty : ∀ p ∈ tf, h.get? (He.cT K p).2 = some { cls := .none, data := .fields #[] }
abbrev AlK : Type := Bool × List He.FnW
def obsK (fa : List He.Fa) (fn : List He5.DefA) (ex : PySem.W.Frag → Bool) (tf : List He.Defn) (g : Addr → Option Obj) (K : PySem.W.Frag) : AlK := ((fa.all fun f => f.ok K) && ((fn.all fun d => d.ok K) && (ex K && He.tabsB g tf K)), fn.map fun d => He5.fnA K (d.at_ K))
def valK (fn : List He5.DefA) : AlK := (true, fn.map He5.DefA.val)
theorem mem_map_eq {α β : Type} {l : List α} {f g : α → β} (e : l.map f = l.map g) : ∀ a ∈ l, f a = g a := by
  induction l with
  | nil => intro a h; cases h
  | cons x r ih =>
    rw [List.map_cons, List.map_cons] at e
    injection e with e1 e2
    intro a h
    rcases List.mem_cons.mp h with q | q
    · rw [q]; exact e1
    · exact ih e2 a q
theorem says_of {fa : List He.Fa} {fn : List He5.DefA} {ex : PySem.W.Frag → Bool} {tf : List He.Defn} {h : Heap} {K : PySem.W.Frag} (hK : ∀ {a : Addr} {o : Obj}, h.get? a = some o → He.emptyTab o = true → K.lookup a = none) (e : obsK fa fn ex tf h.get? K = valK fn) : SaysG fa fn ex tf h K := by
  have e1 : ((fa.all fun f => f.ok K) && ((fn.all fun d => d.ok K) && (ex K && He.tabsB h.get? tf K))) = true := congrArg (fun z : AlK => z.1) e
  have e2 : fn.map (fun d => He5.fnA K (d.at_ K)) = fn.map He5.DefA.val := congrArg (fun z : AlK => z.2) e
  obtain ⟨h1, h2⟩ := He.ba e1
  obtain ⟨h2, h3⟩ := He.ba h2
  obtain ⟨h3, h4⟩ := He.ba h3
  have key : ∀ p ∈ tf, PySem.W.codeHdIn K (He.cT K p).1 (He.cT K p).2 = true ∧ ∃ o, h.get? (He.cT K p).2 = some o ∧ He.emptyTab o = true := fun p hp => by
    obtain ⟨h5, h6⟩ := He.ba (List.all_eq_true.mp h4 p hp)
    refine ⟨h5, ?_⟩
    cases q : h.get? (He.cT K p).2 with
    | none =>
      rw [q] at h6
      cases h6
    | some o =>
      rw [q] at h6
      exact ⟨o, rfl, h6⟩
  exact ⟨List.all_eq_true.mp h1, fun d hd => He5.DefA.funD (mem_map_eq e2 d hd) (List.all_eq_true.mp h2 d hd), h3, fun p hp => (key p hp).1, fun p hp => by
    obtain ⟨_, o, q, z⟩ := key p hp
    exact hK q z, fun p hp => by
    obtain ⟨_, o, q, z⟩ := key p hp
    rw [q, He.emptyTab_eq z]⟩
/-! ### the objects that are looked at: what the module's names reach, level by level -/
def refsK (o : Obj) : List Addr := match o.data with
  | .seq its _ => its.toList.flatMap He.refV
  | .dict es _ => es.toList.flatMap fun e => He.refV e.val
  | .func fd => He.refV fd.code ++ (He.refV fd.defaults ++ He.refV fd.kwdefaults)
  | .cls cd => [cd.ns]
  | .fields vs => match Nat.blt vs.size 10 with
    | true => vs.toList.flatMap He.refV
    | false => []
  | _ => []
def lvK (g : Addr → Option Obj) : Nat → List Addr → List Addr
  | 0, as => as
  | n + 1, as => as ++ lvK g n (as.flatMap fun a => match g a with
    | some o => refsK o
    | none => [])
def asK (g : Addr → Option Obj) : List Addr := lvK g 6 [mainGlobals]
def hookK (fa : List He.Fa) (fn : List He5.DefA) (ex : PySem.W.Frag → Bool) (tf : List He.Defn) : PySem.W.Hook where
  α := AlK
  obs := fun s => obsK fa fn ex tf s.heap.get? (He.frT s.heap.get? (asK s.heap.get?))
  val := fun _ => valK fn
  says := fun _ h => ∃ K : PySem.W.Frag, K.In h ∧ SaysG fa fn ex tf h K
  of := fun _ _ e => ⟨_, He.frT_in, says_of (fun q z => He.frT_none q z) e⟩
  keeps := fun _ _ _ ⟨K, hK, c⟩ k => ⟨K, PySem.W.Frag.In.keeps hK k, ⟨c.fa, c.fn, c.ex, c.hd, c.out, fun p hp => k _ _ (c.empty p hp)⟩⟩
theorem obsK_eq {fa : List He.Fa} {fn : List He5.DefA} {ex : PySem.W.Frag → Bool} {tf : List He.Defn} {g : Addr → Option Obj} {s : Shared} (h : ∀ a, g a = s.heap.get? a) : obsK fa fn ex tf g (He.frT g (asK g)) = (hookK fa fn ex tf).obs s := by
  have e : g = s.heap.get? := funext h
  rw [e] <;> rfl
abbrev Says (h : Heap) (K : PySem.W.Frag) : Prop := SaysG fa fn exK tf h K
abbrev hkK : PySem.W.Hook := hookK fa fn exK tf
abbrev R : PySem.W.OpenRow := PySem.W.OpenLaw.row PySem.Challenge.rw_keepbefore_k33_whole_nothing_kept_is_not
def ob (s : PySem.W.SharedT) : AlK := obsK fa fn exK tf (HandSHeadRun.getT s) (He.frT (HandSHeadRun.getT s) (asK (HandSHeadRun.getT s)))
theorem ob_eq (s : PySem.W.SharedT) : ob s = hkK.obs s.abs := obsK_eq (HandSHeadRun.getT_eq s)
end Kb
set_option Elab.async false
set_option linter.all false
set_option maxRecDepth 100000
set_option maxHeartbeats 0
namespace Kb
open PySem PySem.Spec PyProof.Rows L2
theorem run_top (w : World) : HandSHeadRun.RunEq R (PySem.W.view R.prog [95]) hkK ob 60000 looseN w := by
  intro os
  kernel_rfl
end Kb
/-! The plain machine: memory, disks, plans. No program in sight. -/
namespace Kb
structure Rec where
  b : Nat
  v : Int
  t : Int
  d : Bool
  deriving DecidableEq
structure Ent where
  r : Rec
  came : Int
  used : Int
  uses : Int
abbrev Kn := List (Option Ent)
structure Mem where
  kn : Kn
  turn : Int
  begun : Int
  hits : Int
structure Dk (α : Type) where
  sh : List α
  sy : List α
  wt : List (Nat × α)
  tr : Int
  tw : Int
  ts : Int
structure Ds where
  slow : Dk Int
  fast : Dk (Option Rec)
inductive Wd where
  | slow | sslow | fast | sfast | free | mark | done
  deriving DecidableEq
inductive Way where
  | thr | back | arou
  deriving DecidableEq
inductive Cho where
  | used | came | rare
  deriving DecidableEq
structure Cfg where
  way : Way
  keep : Bool
  cho : Cho
  bound : Nat
  thr : List Wd
  bk : List Wd
  ar : List Wd
  cl : List Wd
def Cfg.rcp (c : Cfg) : Way → List Wd
  | .thr => c.thr
  | .back => c.bk
  | .arou => c.ar
inductive Stp where
  | slow (b : Nat) (v : Int) | fast (s : Nat) (r : Option Rec) | sslow | sfast | done | rslow | rfast

/-! ### disks -/
def Dk.write {α : Type} (D : Dk α) (c : Nat) (x : α) : Dk α := { D with sh := D.sh.set c x, wt := D.wt ++ [(c, x)], tw := D.tw + 1 }
def Dk.sync {α : Type} (D : Dk α) : Dk α := { D with sy := D.sh, wt := [], ts := D.ts + 1 }
def Dk.read {α : Type} (D : Dk α) : Dk α := { D with tr := D.tr + 1 }
def Dk.fail0 {α : Type} (D : Dk α) : Dk α := { D with sh := D.sy, wt := [] }
def app (D : Ds) : Stp → Ds
  | .slow b v => { D with slow := D.slow.write b v }
  | .fast s r => { D with fast := D.fast.write s r }
  | .sslow => { D with slow := D.slow.sync }
  | .sfast => { D with fast := D.fast.sync }
  | .done => D
  | .rslow => { D with slow := D.slow.read }
  | .rfast => { D with fast := D.fast.read }
def run (l : List Stp) (D : Ds) : Ds := l.foldl app D
theorem run_nil (D : Ds) : run [] D = D := rfl
theorem run_cons (s : Stp) (l : List Stp) (D : Ds) : run (s :: l) D = run l (app D s) := rfl
theorem run_app (a b : List Stp) (D : Ds) : run (a ++ b) D = run b (run a D) := by
  unfold run
  rw [List.foldl_append]

/-! ### memory -/
def Kn.at (kn : Kn) (s : Nat) : Option Ent := (kn[s]?).join
def slotOf (kn : Kn) (b : Nat) : Option Nat := (List.range kn.length).find? fun s => match Kn.at kn s with
  | some e => e.r.b == b
  | none => false
def touch (e : Ent) (now : Int) : Ent := { e with used := now, uses := if e.uses + 1 < 9 then e.uses + 1 else 9 }
def modE (kn : Kn) (s : Nat) (f : Ent → Ent) : Kn := match Kn.at kn s with
  | some e => kn.set s (some (f e))
  | none => kn
def begin_ (m : Mem) (b : Nat) : Option Nat × Mem := match slotOf m.kn b with
  | some s => (some s, { m with kn := modE m.kn s (fun e => touch e m.begun), begun := m.begun + 1, hits := m.hits + 1 })
  | none => (none, { m with begun := m.begun + 1 })
def knowE (o : Option Ent) (r : Rec) (now : Int) : Ent := match o with
  | some e => if e.r.b = r.b then { e with r := r } else ⟨r, now, now, 1⟩
  | none => ⟨r, now, now, 1⟩
def know (m : Mem) (s : Nat) (r : Rec) : Mem := { m with kn := m.kn.set s (some (knowE (Kn.at m.kn s) r (m.begun - 1))) }
def drop (m : Mem) (s : Nat) : Mem := { m with kn := m.kn.set s none }
def dropO (m : Mem) : Option Nat → Mem
  | some s => drop m s
  | none => m
/-- dirty records: (turn, slot) -/
def dirt (kn : Kn) : List (Int × Nat) := (List.range kn.length).filterMap fun s => match Kn.at kn s with
  | some e => if e.r.d then some (e.r.t, s) else none
  | none => none
def ple (a b : Int × Nat) : Bool := decide (a.1 < b.1) || (decide (a.1 = b.1) && decide (a.2 ≤ b.2))
def ins (x : Int × Nat) : List (Int × Nat) → List (Int × Nat)
  | [] => [x]
  | y :: r => if ple x y then x :: y :: r else y :: ins x r
def srt : List (Int × Nat) → List (Int × Nat)
  | [] => []
  | x :: r => ins x (srt r)
def oldest (kn : Kn) : List (Int × Nat) := srt (dirt kn)
def cleanStp (s : Nat) (r : Rec) : Wd → Stp
  | .slow => .slow r.b r.v
  | .sslow => .sslow
  | .mark => .fast s (some { r with d := false })
  | _ => .sfast
def clean (c : Cfg) (m : Mem) (s : Nat) : Mem × List Stp := match Kn.at m.kn s with
  | some e => ({ m with kn := m.kn.set s (some { e with r := { e.r with d := false } }) }, c.cl.map (cleanStp s e.r))
  | none => (m, [])
def cleanL (c : Cfg) : List Nat → Mem → Mem × List Stp
  | [], m => (m, [])
  | s :: r, m => let a := clean c m s
    let z := cleanL c r a.1
    (z.1, a.2 ++ z.2)
def frees (kn : Kn) : List Nat := (List.range kn.length).filter fun s => (Kn.at kn s).isNone
def clears (kn : Kn) : List Nat := (List.range kn.length).filter fun s => match Kn.at kn s with
  | some e => !e.r.d
  | none => false
/-- the row of a slot by the choice; its last item is the slot -/
def row (c : Cho) (e : Ent) (s : Nat) : List Int := match c with
  | .came => [e.came, s]
  | .used => [e.used, s]
  | .rare => [e.uses, e.used, s]
def rowAt (c : Cho) (kn : Kn) (s : Nat) : List Int := match Kn.at kn s with
  | some e => row c e s
  | none => [s]
def lexLt : List Int → List Int → Bool
  | [], [] => false
  | [], _ :: _ => true
  | _ :: _, [] => false
  | a :: r, b :: q => decide (a < b) || (decide (a = b) && lexLt r q)
/-- the slot with the least row -/
def pick (f : Nat → List Int) : List Nat → Nat
  | [] => 0
  | s :: r => r.foldl (fun a b => if lexLt (f b) (f a) then b else a) s
def take (c : Cfg) (m : Mem) : Nat × Mem × List Stp := match frees m.kn with
  | s :: _ => (s, m, [])
  | [] => match clears m.kn with
    | [] => match oldest m.kn with
      | [] => (0, m, [])
      | p :: _ => (p.2, drop (clean c m p.2).1 p.2, (clean c m p.2).2)
    | s :: r => (pick (rowAt c.cho m.kn) (s :: r), drop m (pick (rowAt c.cho m.kn) (s :: r)), [])
def word (w : Wd) (m : Mem) (way : Way) (r : Rec) (own taken : Option Nat) : Mem × List Stp := match w with
  | .slow => (m, [.slow r.b r.v])
  | .sslow => (m, [.sslow])
  | .done => (m, [.done])
  | .sfast => (m, [.sfast])
  | .mark => (m, [])
  | .fast => match taken with
    | none => (m, [])
    | some t => if way = .arou then (m, []) else (if own = some t then know m t r else dropO (know m t r) own, [.fast t (some r)])
  | .free => match own with
    | none => (m, [])
    | some o => if way = .thr ∨ (way = .back ∧ own = taken) then (m, []) else (drop m o, [.fast o none])
def words (way : Way) (r : Rec) (own taken : Option Nat) : List Wd → Mem → Mem × List Stp
  | [], m => (m, [])
  | w :: l, m => let a := word w m way r own taken
    let z := words way r own taken l a.1
    (z.1, a.2 ++ z.2)
def isDirty (kn : Kn) (s : Nat) : Bool := match Kn.at kn s with
  | some e => e.r.d
  | none => false
def taken (c : Cfg) (m : Mem) (own : Option Nat) : Option Nat × Mem × List Stp :=
  if c.way = .back ∧ (own.elim true (isDirty m.kn)) = true then (some (take c m).1, (take c m).2.1, (take c m).2.2) else (own, m, [])
def over (c : Cfg) (kn : Kn) : List Nat := ((oldest kn).take ((oldest kn).length - c.bound)).map (·.2)
def write (c : Cfg) (m : Mem) (b : Nat) (v : Int) : Bool × Mem × List Stp :=
  let g := begin_ m b
  let m1 : Mem := { g.2 with turn := g.2.turn + 1 }
  let k := taken c m1 g.1
  let z := words c.way ⟨b, v, m.turn, decide (c.way = .back)⟩ g.1 k.1 (c.rcp c.way) k.2.1
  let y := if c.way = .back then cleanL c (over c z.1.kn) z.1 else (z.1, [])
  (g.1.isSome, y.1, k.2.2 ++ (z.2 ++ y.2))
def read (c : Cfg) (m : Mem) (b : Nat) (sv : Int) : Int × Mem × List Stp :=
  let g := begin_ m b
  match g.1 with
  | some s => ((match Kn.at g.2.kn s with
    | some e => e.r.v
    | none => 0), g.2, [.rfast])
  | none => if c.keep then
      let k := take c g.2
      (sv, know k.2.1 k.1 ⟨b, sv, 0, false⟩, .rslow :: (k.2.2 ++ [.fast k.1 (some ⟨b, sv, 0, false⟩)]))
    else (sv, g.2, [.rslow])

/-! ### a restart with nothing kept -/
def recAt (rs : List (Option Rec)) (s : Nat) : Option Rec := (rs[s]?).join
def bestStep (rs : List (Option Rec)) (L : List (Nat × Nat)) (s : Nat) : List (Nat × Nat) := match recAt rs s with
  | some r => if r.d then (match L.lookup r.b with
    | none => L ++ [(r.b, s)]
    | some s0 => match recAt rs s0 with
      | some r0 => if r0.t < r.t then L.map (fun p => if p.1 = r.b then (r.b, s) else p) else L
      | none => L) else L
  | none => L
/-- block, slot: the dirty records that count -/
def bestL (rs : List (Option Rec)) : List (Nat × Nat) := (List.range rs.length).foldl (bestStep rs) []
def isBest (rs : List (Option Rec)) (s : Nat) : Bool := match recAt rs s with
  | some r => r.d && decide ((bestL rs).lookup r.b = some s)
  | none => false
def freed (rs : List (Option Rec)) : List Nat := (List.range rs.length).filter fun s => match recAt rs s with
  | some r => r.d && !isBest rs s
  | none => false
def turnOf (rs : List (Option Rec)) : Int := rs.foldl (fun t o => match o with
  | some r => if r.t + 1 > t then r.t + 1 else t
  | none => t) 1
def knOf (rs : List (Option Rec)) (now : Int) : Kn := (List.range rs.length).map fun s => match recAt rs s with
  | some r => if isBest rs s then some ⟨r, now, now, 1⟩ else none
  | none => none
def freeAll (D : Dk (Option Rec)) (l : List Nat) : Dk (Option Rec) := l.foldl (fun D s => D.write s none) D
def restartF (D : Dk (Option Rec)) : Dk (Option Rec) :=
  let D1 : Dk (Option Rec) := { D.fail0 with tr := D.tr + D.sy.length }
  if freed D.sy = [] then D1 else (freeAll D1 (freed D.sy)).sync
def restartD (D : Ds) : Ds := { slow := D.slow.fail0, fast := restartF D.fast }
def restartM (m : Mem) (D : Ds) : Mem := { kn := knOf D.fast.sy (m.begun - 1), turn := turnOf D.fast.sy, begun := m.begun, hits := m.hits }
/-- the values that reading each block would return -/
def vals (kn : Kn) (sh : List Int) : List Int := (List.range kn.length).foldl (fun f s => match Kn.at kn s with
  | some e => f.set e.r.b e.r.v
  | none => f) sh
def dirtyBlocks (nb : Nat) (kn : Kn) : List Nat := (List.range nb).filter fun b => (List.range kn.length).any fun s => match Kn.at kn s with
  | some e => e.r.d && e.r.b == b
  | none => false
end Kb
set_option Elab.async false
set_option linter.all false
set_option maxRecDepth 100000
set_option maxHeartbeats 4000000
/-! Rules that the layer lacked. -/
namespace Kb
open PySem PySem.Spec PyProof.Rows L2

/-! ### an expression that is never reached -/
def tNo : TE := fun _ _ _ => False
theorem pe_no {X : Cx} {e : Expr} : PE X e tNo := ⟨fun _ _ _ _ _ _ h => h.elim⟩
def ttNo : TT := fun _ _ _ => False
theorem pt_no {X : Cx} {e : Expr} : PT X e ttNo := ⟨fun _ _ _ _ _ _ h => h.elim⟩

/-! ### xs[i] op= e of a list -/
def rGetL (K : PySem.W.Frag) : V → V → Hp → VK → Prop := fun o i H Q => ∃ p xs k v, o = .ref p ∧ i = .int k ∧ SqL K H p xs ∧ atI xs k = some v ∧ Q v H
theorem pget_list {X : Cx} : PGet X (rGetL X.K) := by
  intro pins s σ H o i ov iv Q I ro ri h
  obtain ⟨p, xs, k, v, rfl, rfl, hq, ha, q⟩ := h
  cases ro
  obtain ⟨t, rfl⟩ := ri
  obtain ⟨its, r, pl, hz⟩ := I.list hq
  obtain ⟨j, h1, h2, h3, h4, h5⟩ := atI_get ha
  obtain ⟨w, ew, rw'⟩ := r.get h2
  have hl := r.length
  have hn := line63
  have fin : EP X pins σ Q w s := ⟨v, H, I, rw', q⟩
  by_cases h0 : 0 ≤ k
  · have hj : k.toNat = j := by
      rw [seqIndex_of h0 h5] at h1
      exact Option.some.inj h1
    exact PySem.wpAny_getItem_list pl.isList h0 (by omega) (by rw [hj]; simpa using ew) fin
  · have hj : (k + (its.toArray.size : Int)).toNat = j := by
      rw [seqIndex_neg (by omega) h4] at h1
      rw [List.size_toArray, ← hl]
      exact Option.some.inj h1
    exact wpAny_getItem_list_neg pl.isList (by omega) (by rw [List.size_toArray] <;> omega) (by omega) (by rw [hj]; simpa using ew) fin

/-! ### d.pop(k, x) where k may be None -/
theorem none_pairs {P : Program} {w : World} : ∀ {es : List DictEntry} {vs : List (Key × Value)}, Pairs (mixKind P w) es vs → Pairs (noneKind P w) es (vs.map fun p => (some p.1, p.2))
  | _, _, .nil => .nil
  | _, _, .cons h1 h2 h3 => .cons h1 h2 (none_pairs h3)
theorem none_dict {P : Program} {w : World} {h : Heap} {a : Addr} {vs : List (Key × Value)} (d : h.DictOf (mixKind P w) a vs) : h.DictOf (noneKind P w) a (vs.map fun p => (some p.1, p.2)) := by
  obtain ⟨o, es, ep, ho, hx, hdt, hk, hp, hn⟩ := d
  refine ⟨o, es, ep, ho, hx, hdt, fun e he => ?_, none_pairs hp, ?_⟩
  · obtain ⟨k, h1, h2⟩ := hk e he
    exact ⟨some k, h1, h2⟩
  · rw [List.map_map]
    have e1 : (vs.map ((fun p : Option Key × Value => p.1) ∘ fun p : Key × Value => (some p.1, p.2))) = (vs.map (·.1)).map some := by
      rw [List.map_map] <;> rfl
    rw [e1]
    exact List.Pairwise.map _ (fun a b h e => h (Option.some.inj e)) hn
theorem d_popNone {X : Cx} {pins : List (Addr × Obj)} {σ : L2.St} {H : Hp} {s : Shared} {a : Addr} {kvs : List (Key × V)} {A : Around} {E : Value → Shared → Prop} {r : Value} {Q : Value → Shared → Prop} (I : Inv X pins σ H s) (e : H a = some (.dK kvs)) (h : ∀ s', Inv X pins σ H s' → Q r s') :
    wpAny (model X.prog X.w) A (call (.builtin "dict.pop") [.ref a, .none, r]) Q E s := by
  obtain ⟨z, hd, vs, rel, dd⟩ := dk_of I.hok e
  have dn := none_dict dd
  have hn : valueAt (vs.map fun p => ((some p.1 : Option Key), p.2)) none = Option.none := by
    unfold valueAt
    have q : ((vs.map fun p => ((some p.1 : Option Key), p.2)).find? fun kv => decide (kv.1 = none)) = none := by
      rw [List.find?_eq_none]
      intro x hx
      obtain ⟨y, _, e2⟩ := List.mem_map.mp hx
      rw [← e2]
      simp
    rw [q] <;> rfl
  exact call_meetsIn PySem.F.slot_dict_pop dd.typeIs PySem.F.entry_dict_pop (PySem.F.args_dict_pop_3 _ _ _) (meets_dict_pop_default (noneKind X.prog X.w) a (show (noneKind X.prog X.w).is none .none = true from rfl) hd rfl r) ⟨_, dn, hn, h _ (I.tok _)⟩
/-- d.pop(y, x): y a key or None -/
def tDPop2N (td ty tx : TE) : TE := fun σ H Q => td σ H fun x H1 => ∃ a, x = .ref a ∧ IsD H1 a ∧ ty σ H1 fun y H2 => tx σ H2 fun z H3 => (∃ kvs k, H3 a = some (.dK kvs) ∧ y = kV k ∧ (∀ v, valV kvs k = some v → Q v (upd H3 a (.dK (dropK kvs k)))) ∧ (valV kvs k = none → Q z H3)) ∨
  ∃ kvs, H3 a = some (.dK kvs) ∧ y = .non ∧ Q z H3
theorem pe_dpop2N {X : Cx} {o e f : Expr} {td ty tx : TE} {apos cpos : Pos} (ho : PE X o td) (he : PE X e ty) (hf : PE X f tx) (m : M2 X o "pop" apos e f cpos) : PE X (.Call (.Attribute o "pop" apos) [e, f] [] cpos) (tDPop2N td ty tx) := by
  refine ⟨fun pins s σ H Q I h => ?_⟩
  refine wpAny_Call_method m.base m.few m.line PySem.F.plainAttrs_dict PySem.F.slot_dict_pop PySem.F.type_dict_pop (thn (ho.run pins s σ H _ I h) fun u s1 ⟨x, H1, I1, rx, a, ex, d, q1⟩ => ?_)
  subst ex
  obtain rfl : u = Value.ref a := rx
  obtain ⟨t1, t2, _⟩ := isD_at I1 d
  refine ⟨t1, t2, ?_⟩
  rw [m.trees]
  refine Calls.callWith_builtin rfl (Calls.evalArgs_plain (Calls.spliced_cons (thn (he.run pins s1 σ H1 _ I1 q1) fun iv s2 ⟨y, H2, I2, ry, q2⟩ =>
    Calls.spliced_cons (thn (hf.run pins s2 σ H2 _ I2 q2) fun fv s3 ⟨z, H3, I3, rz, q3⟩ => Calls.spliced_nil ?_))))
  rcases q3 with ⟨kvs, k, ea, ey, q3, q4⟩ | ⟨kvs, ea, ey, q3⟩
  · subst ey
    cases l : valV kvs k with
    | some v => exact d_pop I3 ea ry l (.inr ⟨fv, rfl⟩) fun w' s4 I4 rw' => ⟨v, _, I4, rw', q3 v l⟩
    | none => exact d_popD I3 ea ry l fun s4 I4 => ⟨z, H3, I4, rz, q4 l⟩
  · subst ey
    obtain rfl : iv = Value.none := ry
    exact d_popNone I3 ea fun s4 I4 => ⟨z, H3, I4, rz, q3⟩

/-! ### min of a list of tuples of ints -/
/-- the first of the least -/
def leastL (x : List Int) (xs : List (List Int)) : List Int := xs.foldl (fun a y => if HT.lexLt y a then y else a) x
def rMinT (K : PySem.W.Frag) : List V → Hp → VK → Prop := fun vs H Q => ∃ (a : Addr) (x : Addr × List Int) (xs : List (Addr × List Int)), vs = [.ref a] ∧ SqL K H a ((x :: xs).map fun p => V.ref p.1) ∧ (∀ p ∈ x :: xs, SqT K H p.1 (p.2.map V.int)) ∧
  ∀ p ∈ x :: xs, p.2 = leastL x.2 (xs.map (·.2)) → Q (.ref p.1) H
theorem listLt_lex : ∀ xs ys : List Int, PySem.W.listLt xs ys = HT.lexLt xs ys
  | [], [] => rfl
  | [], _ :: _ => rfl
  | _ :: _, [] => rfl
  | x :: xs, y :: ys => by
    show (if x = y then PySem.W.listLt xs ys else decide (x < y)) = if x = y then HT.lexLt xs ys else decide (x < y)
    rw [listLt_lex xs ys]
theorem minOf_least : ∀ (x : List Int) (xs : List (List Int)), (PySem.W.minOf (α := PySem.W.Tup Int) ⟨x⟩ (xs.map fun y => ⟨y⟩)).items = leastL x xs
  | x, [] => rfl
  | x, y :: ys => by
    have e : PySem.W.minOf (α := PySem.W.Tup Int) ⟨x⟩ ((y :: ys).map fun y => ⟨y⟩) = PySem.W.minOf (α := PySem.W.Tup Int) (if PySem.W.listLt y x = true then ⟨y⟩ else ⟨x⟩) (ys.map fun y => ⟨y⟩) := rfl
    have e2 : leastL x (y :: ys) = leastL (if HT.lexLt y x = true then y else x) ys := rfl
    rw [e, e2, listLt_lex]
    cases HT.lexLt y x with
    | true => exact minOf_least y ys
    | false => exact minOf_least x ys
theorem tup_datum {X : Cx} {pins : List (Addr × Obj)} {σ : L2.St} {H : Hp} {s : Shared} (I : Inv X pins σ H s) {t : Addr} {ns : List Int} (h : SqT X.K H t (ns.map V.int)) : ∃ as, Reads s.heap (.ref t) (PySem.W.Datum.toD (α := PySem.W.Tup Int) ⟨ns⟩) as := by
  refine Dp.reads I _ (.ref t) (.ref t) (.tup h ?_) rfl
  clear h
  induction ns with
  | nil => exact .nil
  | cons n r ih => exact .cons (.int n) ih
theorem tups_hold {X : Cx} {pins : List (Addr × Obj)} {σ : L2.St} {H : Hp} {s : Shared} (I : Inv X pins σ H s) : ∀ {ps : List (Addr × List Int)}, (∀ p ∈ ps, SqT X.K H p.1 (p.2.map V.int)) → PySem.W.HoldAll s.heap (ps.map fun p => Value.ref p.1) (ps.map fun p => (⟨p.2⟩ : PySem.W.Tup Int))
  | [], _ => ⟨[], .nil⟩
  | p :: r, h => by
    obtain ⟨as, h1⟩ := tup_datum I (h p List.mem_cons_self)
    obtain ⟨bs, h2⟩ := tups_hold I (ps := r) fun q hq => h q (List.mem_cons_of_mem _ hq)
    exact ⟨_, .cons h1 h2⟩
theorem vals_refs : ∀ {ps : List (Addr × List Int)} {us : List Value}, Vals (ps.map fun p => V.ref p.1) us → us = ps.map fun p => Value.ref p.1
  | [], _, .nil => rfl
  | p :: r, _, .cons h t => by
    obtain rfl : _ = Value.ref p.1 := h
    rw [vals_refs t] <;> rfl
theorem cr_minT {X : Cx} (hc : X.calm = true) (hu : X.A.units + 64 < cLine) : CallR X (.builtin "min") (rMinT X.K) := by
  intro pins s σ H vs us Q I r h
  obtain ⟨a, x, xs, rfl, hs, ht, q⟩ := h
  obtain ⟨its, rv, hl, _⟩ := I.list hs
  rw [Vals.ref1 r]
  have hi := vals_refs rv
  have hold := tups_hold I ht
  rw [← hi] at hold
  refine PySem.W.min_list_datum (α := PySem.W.Tup Int) (x := ⟨x.2⟩) (xs := xs.map fun p => ⟨p.2⟩) (I.ok.hd hc) hl.isList (by simpa using hold) (by
    have e : PySem.W.Datum.depth (PySem.W.Tup Int) = PySem.W.Datum.depth Int + 1 := rfl
    have e2 : PySem.W.Datum.depth Int = 0 := rfl
    omega) fun i v h' tk hv hh hk => ?_
  have hv2 : ((x :: xs).map fun p : Addr × List Int => Value.ref p.1)[i]? = some v := by
    rw [← hi]
    simpa using hv
  rw [List.getElem?_map] at hv2
  obtain ⟨p, hp, rfl⟩ := Option.map_eq_some_iff.mp hv2
  have hm : p ∈ x :: xs := List.mem_of_getElem? hp
  obtain ⟨as, r1⟩ := tup_datum I (ht p hm)
  obtain ⟨bs, r2⟩ := hh
  have e := (PySem.Reads.unique (PySem.W.reads_keeps hk r1) _ _ r2).1
  have e3 : p.2 = (PySem.W.minOf (α := PySem.W.Tup Int) ⟨x.2⟩ (xs.map fun p => ⟨p.2⟩)).items := by
    have e4 : PyData.tuple (p.2.map PySem.W.Datum.toD) = PyData.tuple ((PySem.W.minOf (α := PySem.W.Tup Int) ⟨x.2⟩ (xs.map fun p => ⟨p.2⟩)).items.map PySem.W.Datum.toD) := e
    have inj : ∀ (l m : List Int), l.map (PySem.W.Datum.toD (α := Int)) = m.map PySem.W.Datum.toD → l = m := by
      intro l
      induction l with
      | nil =>
        intro m h
        cases m with
        | nil => rfl
        | cons _ _ => cases h
      | cons y r ih =>
        intro m h
        cases m with
        | nil => cases h
        | cons z q =>
          rw [List.map_cons, List.map_cons] at h
          injection h with h1 h2
          have h3 : PyData.int y = PyData.int z := h1
          injection h3 with h4
          rw [h4, ih q h2]
    exact inj _ _ (PyData.tuple.inj e4)
  have e5 := minOf_least x.2 (xs.map (·.2))
  rw [List.map_map] at e5
  exact ⟨.ref p.1, H, I.kept hk, rfl, q p hm (e3.trans e5)⟩

/-! ### enumerate of a tuple -/
section
open PySem.AutoSeq1
set_option maxHeartbeats 4000000 in
theorem meets_enumerate_newT {v : Value} {o : Obj} {H : Heap → Prop} (B : Begins v o H) :
    Meets (Builtin.«enumerate.__new__» ⟨[.type "enumerate", v], []⟩) (fun _ R s => H s.heap ∧
      R (.ok (.ret (.ref (s.heap.push o).objs.size))) { s with heap := (s.heap.push o).push { cls := .type "enumerate", data := .fields #[.none, .bool false, .ref s.heap.objs.size, rawInt 0, .none, .none] } }) :=
  .of_wp fun prog w A R s h => by
    obtain ⟨hp, g, d, tk, os⟩ := s
    obtain ⟨h1, h⟩ := h
    have hsub := sub_enumerate
    have q1 : ∀ {A' : Around} {E : Value → Shared → Prop} {Q : Value → Shared → Prop}, Q (.ref hp.objs.size) ⟨hp.push o, g, d, tk, os⟩ → wpAny (model prog w) A' (pyIter v) Q E ⟨hp, g, d, tk, os⟩ :=
      fun q => B.iter prog w _ _ ⟨hp, g, d, tk, os⟩ _ h1 q
    wp_walk using q1
    refine wpAny_stack_any fun st => wpAny_pure ?_
    split
    · rename_i c _ _ _ _ _
      cases (c == Value.type "enumerate")
      · wp_walk using q1
        exact ⟨_, rfl, h⟩
      · wp_walk using q1
        exact ⟨_, rfl, h⟩
    · wp_walk using q1
      exact ⟨_, rfl, h⟩
end
theorem call_enumerate_tuple {prog : Program} {w : World} {A : Around} {E : Value → Shared → Prop} {s : Shared} {l : Addr} {items : Array Value} {Q : Value → Shared → Prop} (hL : s.heap.IsTuple l items)
    (h : ∀ h', IsEnum h' (s.heap.objs.size + 1) s.heap.objs.size 0 .none → h'.IsTupleIter s.heap.objs.size l 0 → h'.objs.size = s.heap.objs.size + 2 →
      (∀ b o, s.heap.get? b = some o → h'.get? b = some o) → Q (.ref (s.heap.objs.size + 1)) { s with heap := h' }) :
    wpAny (model prog w) A (call (.type "enumerate") [.ref l]) Q E s := by
  have B := begins_tuple l items
  refine callType_new F.called_enumerate (by decide) (F.typeCall_enumerate_1 _) (F.newCall_enumerate_1 _) (fun obj => F.args_object_init_2 obj _) F.entry_enumerate_new
    (meets_enumerate_newT B) ⟨hL, ?_⟩
  have hz : (s.heap.push { cls := .type "tuple_iterator", data := .fields #[.ref l, .int 0 0] }).objs.size = s.heap.objs.size + 1 := Heap.size_push ..
  show _ ∧ _
  rw [hz]
  have he : IsEnum ((s.heap.push { cls := .type "tuple_iterator", data := .fields #[.ref l, .int 0 0] }).push { cls := .type "enumerate", data := .fields #[.none, .bool false, .ref s.heap.objs.size, rawInt 0, .none, .none] }) (s.heap.objs.size + 1) s.heap.objs.size 0 .none := by
    have := Heap.get?_push_size (s.heap.push { cls := .type "tuple_iterator", data := .fields #[.ref l, .int 0 0] }) (o := { cls := .type "enumerate", data := .fields #[.none, .bool false, .ref s.heap.objs.size, rawInt 0, .none, .none] }) rfl
    rw [hz] at this
    exact this
  exact ⟨⟨_, he, rfl⟩, h _ he ⟨_, Heap.get?_push_of_some _ (Heap.get?_push_size _ rfl), rfl, rfl⟩ (by rw [Heap.size_push, hz]) fun b o x => Heap.get?_push_of_some _ (Heap.get?_push_of_some _ x)⟩
def IteT (K : PySem.W.Frag) (a : Addr) : It :=
  ⟨fun i H => ∃ (xs : List V) (x : V), SqT K H a xs ∧ xs[i]? = some x, fun i H v H' => ∃ T x, v = .ref T ∧ H T = none ∧ H' = upd H T (.tup [.int (i : Nat), x]) ∧ ∀ xs, SqT K H a xs → xs[i]? = some x, fun i H => ∃ xs : List V, SqT K H a xs ∧ xs.length = i⟩
theorem turn_enumT {P : Program} {w : World} {K : PySem.W.Frag} {elts : List PySem.Expr} {kk : Nat} {tpos : Pos} (a e it : Addr) (hae : a ≠ e) (hai : a ≠ it) :
    Turn P w K (.Tuple elts kk tpos) (IteT K a) [e, it] e (fun i h => (∃ old, IsEnum h e it ((i : Nat) : Int) old) ∧ h.IsTupleIter it a i ∧ e ≠ it) where
  mem := by simp
  obj := fun i h st b hb => by
    obtain ⟨⟨old, he⟩, ⟨o, ho, hc, hd⟩, _⟩ := st
    have e' : b = e ∨ b = it := by simpa using hb
    rcases e' with z | z
    · rw [z]; exact ⟨_, he, fun v q => nomatch q⟩
    · rw [z]; exact ⟨o, ho, fun v q => by rw [hd] at q; cases q⟩
  keep := fun i h h' st k => let ⟨⟨old, he⟩, hi, hne⟩ := st; ⟨⟨old, k e (by simp) _ he⟩, hi.at fun o q => k it (by simp) o q, hne⟩
  item := by
    intro X hP hw hK hc i pins s σ H E I hf st hg
    subst hP hw hK
    obtain ⟨⟨old, he⟩, hit, hne⟩ := st
    obtain ⟨xs, x, hq, hx⟩ := hg
    obtain ⟨its, rv, p, hz⟩ := I.tuple hq
    obtain ⟨u, hu, ru⟩ := rv.get hx
    have hel : e < s.heap.objs.size := Heap.lt_size he
    have hil : it < s.heap.objs.size := by obtain ⟨_, q, _⟩ := hit; exact Heap.lt_size q
    have hp : s.heap.IsTuple a its.toArray := p
    refine wpAny_pyNext_enum_itemC (A := X.A) (i := i) (Draws.tuple (A := X.A.in1) (I.ok.hd hc) it a hai its.toArray) he ⟨hit, hp⟩ (by
      have := (List.getElem?_eq_some_iff.mp hu).1
      simpa using this) hne (by simp [hne, Ne.symm hae]) fun y h' tk hy ho hst' hT hsz hk => ?_
    have ey : y = u := by
      have h1 : its.toArray[i]? = some y := hy
      have h2 : its.toArray[i]? = some u := by simpa using hu
      rw [h1] at h2
      exact Option.some.inj h2
    subst ey
    refine ⟨_, rfl, wpAny_letOwnedTupleGo_enum (s := { s with heap := h', toks := tk + 1 }) ho fun h'' he' sb => ?_⟩
    have hT2 : h''.get? s.heap.objs.size = some { cls := .type "tuple", data := .seq #[.int i tk, y] } := (sb.2 _ (Nat.ne_of_gt hel)).trans hT
    have new : ObjOk X.prog X.w (upd H s.heap.objs.size (.tup [.int (i : Nat), x])) h'' s.heap.objs.size (.tup [.int (i : Nat), x]) :=
      ⟨by show 2 ≤ sizeLine; decide, [.int i tk, y], .cons ⟨_, rfl⟩ (.cons ru .nil), ⟨_, hT2, rfl, _, rfl⟩⟩
    have I1 : Inv X pins σ (upd H s.heap.objs.size (.tup [.int (i : Nat), x])) { s with heap := h'', toks := tk + 1 } :=
      I.turnedNew (ch := [e, it]) (fun b ob hb q => (sb.2 b (fun z => hb (by simp [z]))).trans (hk b ob (fun z => hb (by simp [z])) (fun z => hb (by simp [z])) q)) hf (Nat.le_refl _) new
    refine ⟨.ref s.heap.objs.size, _, I1, rfl, ⟨_, x, rfl, I.hok.fresh (Nat.le_refl _), rfl, fun ys hy => by rw [I.tuple_inj hy hq]; exact hx⟩, ⟨⟨y, ?_⟩, hst'.1.at fun o q => (sb.2 it (Ne.symm hne)).trans q, hne⟩, fun b hb => ?_⟩
    · have e1 : ((i + 1 : Nat) : Int) = (i : Int) + 1 := by omega
      rw [e1]; exact he'
    · have hb' : b < s.heap.objs.size := by
        have e' : b = e ∨ b = it := by simpa using hb
        rcases e' with z | z
        · rw [z]; exact hel
        · rw [z]; exact hil
      rw [upd_ne (Nat.ne_of_lt hb')]
      exact (hf b hb).1
  done := by
    intro X hP hw hK hc i pins s σ H E I hf st hg
    subst hP hw hK
    obtain ⟨⟨old, he⟩, hit, hne⟩ := st
    obtain ⟨xs, hq, hx⟩ := hg
    obtain ⟨its, rv, p, hz⟩ := I.tuple hq
    have hp : s.heap.IsTuple a its.toArray := p
    have hl := rv.length
    obtain ⟨f0, f1, f2, f3, f4, f5⟩ := hf it (by simp)
    have en : i = its.toArray.size := by
      rw [List.size_toArray, ← hl, hx]
    exact wpAny_pyNext_enum_endD (Draws.tuple (A := X.A.in1) (I.ok.hd hc) it a hai its.toArray) he ⟨en ▸ hit, hp⟩ fun h' eb => ⟨rfl, I.turned (t' := s.toks) (fun b o hb q => eb b o hb q) f0 f1 f3 f4 f5⟩
  self := fun A i s Q E st h => let ⟨⟨_, he⟩, _⟩ := st; wpAny_pyIter_enum he h
def iEnumT (K : PySem.W.Frag) (ta : TA) : TI := fun σ H R => ta σ H fun vs H1 => ∃ a xs, vs = [.ref a] ∧ SqT K H1 a xs ∧ R (IteT K a) H1
theorem pi_enumT {X : Cx} {e : PySem.Expr} {ta : TA} {p pos tpos : Pos} {elts : List PySem.Expr} {kk : Nat} (hg : Gl X "enumerate") (hm : X.mg "enumerate" = none) (ha : PA X [e] ta) (hs : starEach [e] X.env = [(false, eval e X.env)] := by rfl) :
    PI X (.Tuple elts kk tpos) (.Call (.Name "enumerate" p) [e] [] pos) (iEnumT X.K ta) := by
  refine ⟨fun pins s σ H R I h => ?_⟩
  refine Call_ (ld_blt I hg hm boot_enumerate (PyProof.Rows.callWith_type1 (thn (ha.run pos pins s σ H _ I h) fun us s1 ⟨vs, H1, I1, r1, q1⟩ => ?_) hs rfl))
  obtain ⟨a, xs, ex, hq, q⟩ := q1
  subst ex
  cases r1 with
  | cons r rr =>
    cases rr
    cases r
    obtain ⟨its, rv, p', hz⟩ := I1.tuple hq
    have hp : s1.heap.IsTuple a its.toArray := p'
    have hal : a < s1.heap.objs.size := by obtain ⟨_, q, _⟩ := hp; exact Heap.lt_size q
    refine call_enumerate_tuple hp fun h' he hit hsz hk => wpAny_pyIter_enum he ?_
    have I2 : Inv X pins σ H1 { s1 with heap := h' } := I1.kept (t' := s1.toks) hk
    refine ⟨s1.heap.objs.size + 1, [s1.heap.objs.size + 1, s1.heap.objs.size], _, _, H1, rfl, I2, turn_enumT a (s1.heap.objs.size + 1) s1.heap.objs.size (Nat.ne_of_lt (Nat.lt_succ_of_lt hal)) (Nat.ne_of_lt hal), ⟨⟨.none, he⟩, hit, Nat.succ_ne_self _⟩, fun b hb => ?_, q⟩
    have e' : b = s1.heap.objs.size + 1 ∨ b = s1.heap.objs.size := by simpa using hb
    have hle : s1.heap.objs.size ≤ b := by
      rcases e' with z | z
      · rw [z]; exact Nat.le_add_right _ _
      · rw [z]; exact Nat.le_refl _
    exact I1.fpOk hle (I1.hok.fresh hle)
theorem walk_enumT {K : PySem.W.Frag} {a : Addr} {xs : List V} : Walk (IteT K a) xs.length (fun H => SqT K H a xs) (YPair (fun i => some (.int (i : Nat))) (fun i => xs[i]?)) := by
  refine ⟨fun i _ hi q => ⟨xs, xs[i], q, by simp [hi]⟩, fun _ q => ⟨xs, q, rfl⟩, fun i H v H' _ q y => ?_⟩
  obtain ⟨T, x, h1, h2, h3, h4⟩ := y
  exact ⟨T, .int (i : Nat), x, h1, h2, h3, rfl, h4 xs q⟩
end Kb
set_option Elab.async false
set_option linter.all false
set_option maxRecDepth 100000
set_option maxHeartbeats 4000000
namespace Kb
open PySem PySem.Spec PyProof.Rows L2
def fdOf (K : PySem.W.Frag) (f : Addr) : FuncData := match K.lookup f with
  | some ⟨_, _, .func fd, _⟩ => fd
  | _ => default
theorem funD_fd {K : PySem.W.Frag} {x qual : Str} {params : Arguments} {body : List Stmt} {scope : Scope} {dvs : List V} {kws : List (Str × V)} {f : Addr} {fd : FuncData} (F : FunD K x qual params body scope dvs kws f fd) : fdOf K f = fd := by
  obtain ⟨oc, od, dV, kV, doc, pm, an, cdv, ct, osl, e, lk, _⟩ := F.ex
  unfold fdOf
  rw [lk]
theorem propB_ok {K : PySem.W.Frag} {C f : Str} (h : propB K C f = true) : PropOf K (He.ga K C) f (He.ma K (He.ga K C) f) (gf K (He.ma K (He.ga K C) f)) := by
  obtain ⟨h1, h⟩ := He.ba h
  obtain ⟨h2, h⟩ := He.ba h
  obtain ⟨h3, h4⟩ := He.ba h
  refine ⟨He.eqO_ok h1, He.eqO_ok h2, of_decide_eq_true h3, ?_⟩
  unfold gf
  split at h4
  · rename_i a r e
    exact ⟨r, by rw [e]⟩
  · cases h4

structure Txt (K : PySem.W.Frag) (mg : Str → Option Value) : Prop where
  g_PowerFailed : mg "PowerFailed" = some (.ref (He.ga K "PowerFailed"))
  g_is_int : mg "is_int" = some (.ref (He.ga K "is_int"))
  g_is_int_in : mg "is_int_in" = some (.ref (He.ga K "is_int_in"))
  g_are_ascending : mg "are_ascending" = some (.ref (He.ga K "are_ascending"))
  g_Disk : mg "Disk" = some (.ref (He.ga K "Disk"))
  g_Rules : mg "Rules" = some (.ref (He.ga K "Rules"))
  g_check_recipe : mg "check_recipe" = some (.ref (He.ga K "check_recipe"))
  g_Recipes : mg "Recipes" = some (.ref (He.ga K "Recipes"))
  g_recipe_of : mg "recipe_of" = some (.ref (He.ga K "recipe_of"))
  g_check_sizes : mg "check_sizes" = some (.ref (He.ga K "check_sizes"))
  g_best_dirty : mg "best_dirty" = some (.ref (He.ga K "best_dirty"))
  g_Pair : mg "Pair" = some (.ref (He.ga K "Pair"))
  g_Lrandom : mg "_law_random" = some (.ref (He.ga K "_law_random"))
  g_Lsafe : mg "_law_safe" = some (.ref (He.ga K "_law_safe"))
  g_Lbelow : mg "_law_below" = some (.ref (He.ga K "_law_below"))
  g_Lshuffled : mg "_law_shuffled" = some (.ref (He.ga K "_law_shuffled"))
  g_Lrecipe : mg "_law_recipe" = some (.ref (He.ga K "_law_recipe"))
  g_Lrecipes : mg "_law_recipes" = some (.ref (He.ga K "_law_recipes"))
  g_Lrules : mg "_law_rules" = some (.ref (He.ga K "_law_rules"))
  g_Lpair : mg "_law_pair" = some (.ref (He.ga K "_law_pair"))
  g_Ldisk : mg "_law_disk" = some (.ref (He.ga K "_law_disk"))
  g_Lnew : mg "_law_new" = some (.ref (He.ga K "_law_new"))
  g_Lboth : mg "_law_both" = some (.ref (He.ga K "_law_both"))
  g_Lslot : mg "_law_slot" = some (.ref (He.ga K "_law_slot"))
  g_Lbegin : mg "_law_begin" = some (.ref (He.ga K "_law_begin"))
  g_Loldest : mg "_law_oldest" = some (.ref (He.ga K "_law_oldest"))
  g_Lclean : mg "_law_clean" = some (.ref (He.ga K "_law_clean"))
  g_Ltake : mg "_law_take" = some (.ref (He.ga K "_law_take"))
  g_Lknow : mg "_law_know" = some (.ref (He.ga K "_law_know"))
  g_Lread : mg "_law_read" = some (.ref (He.ga K "_law_read"))
  g_Lword : mg "_law_word" = some (.ref (He.ga K "_law_word"))
  g_Lwrite : mg "_law_write" = some (.ref (He.ga K "_law_write"))
  g_Lplan : mg "_law_plan" = some (.ref (He.ga K "_law_plan"))
  g_Lsync : mg "_law_sync" = some (.ref (He.ga K "_law_sync"))
  g_Lput : mg "_law_put" = some (.ref (He.ga K "_law_put"))
  g_Lgo : mg "_law_go" = some (.ref (He.ga K "_law_go"))
  g_Lpower_of : mg "_law_power_of" = some (.ref (He.ga K "_law_power_of"))
  g_Ldo : mg "_law_do" = some (.ref (He.ga K "_law_do"))
  g_Lequal : mg "_law_equal" = some (.ref (He.ga K "_law_equal"))
  g_Lsame : mg "_law_same" = some (.ref (He.ga K "_law_same"))
  g_Lrequest : mg "_law_request" = some (.ref (He.ga K "_law_request"))
  g_Lfail : mg "_law_fail" = some (.ref (He.ga K "_law_fail"))
  g_Lbest : mg "_law_best" = some (.ref (He.ga K "_law_best"))
  g_Lrestart : mg "_law_restart" = some (.ref (He.ga K "_law_restart"))
  g_Lcounts : mg "_law_counts" = some (.ref (He.ga K "_law_counts"))
  g_Lvalues : mg "_law_values" = some (.ref (He.ga K "_law_values"))
  g_Lshown : mg "_law_shown" = some (.ref (He.ga K "_law_shown"))
  g_Lstands : mg "_law_stands" = some (.ref (He.ga K "_law_stands"))
  g_law : mg "law" = some (.ref (He.ga K "law"))
  f_len : mg "len" = none
  f_range : mg "range" = none
  f_sorted : mg "sorted" = none
  f_min : mg "min" = none
  f_max : mg "max" = none
  f_isinstance : mg "isinstance" = none
  f_int : mg "int" = none
  f_str : mg "str" = none
  f_bool : mg "bool" = none
  f_list : mg "list" = none
  f_tuple : mg "tuple" = none
  f_enumerate : mg "enumerate" = none
  f_zip : mg "zip" = none
  f_all : mg "all" = none
  f_abs : mg "abs" = none
  s_THROUGH : ∃ t, mg "THROUGH" = some (.str "through" t)
  s_BACK : ∃ t, mg "BACK" = some (.str "back" t)
  s_AROUND : ∃ t, mg "AROUND" = some (.str "around" t)
  s_CLEAN : ∃ t, mg "CLEAN" = some (.str "clean" t)
  s_KEEP : ∃ t, mg "KEEP" = some (.str "keep" t)
  s_PASS : ∃ t, mg "PASS" = some (.str "pass" t)
  s_USED : ∃ t, mg "USED" = some (.str "used" t)
  s_CAME : ∃ t, mg "CAME" = some (.str "came" t)
  s_RARE : ∃ t, mg "RARE" = some (.str "rare" t)
  s_SLOW : ∃ t, mg "SLOW" = some (.str "slow" t)
  s_SYNC_SLOW : ∃ t, mg "SYNC_SLOW" = some (.str "sync slow" t)
  s_FAST : ∃ t, mg "FAST" = some (.str "fast" t)
  s_SYNC_FAST : ∃ t, mg "SYNC_FAST" = some (.str "sync fast" t)
  s_FREE : ∃ t, mg "FREE" = some (.str "free" t)
  s_MARK : ∃ t, mg "MARK" = some (.str "mark" t)
  s_DONE : ∃ t, mg "DONE" = some (.str "done" t)
  i_MAX_CELLS : ∃ t, mg "MAX_CELLS" = some (.int 64 t)
  i_MAX_BOUND : ∃ t, mg "MAX_BOUND" = some (.int 8 t)
  i_MAX_STEPS : ∃ t, mg "MAX_STEPS" = some (.int 8 t)
  i_MAX_BLOCKS : ∃ t, mg "MAX_BLOCKS" = some (.int 16 t)
  i_MAX_SLOTS : ∃ t, mg "MAX_SLOTS" = some (.int 8 t)
  i_MAX_VALUE : ∃ t, mg "MAX_VALUE" = some (.int 999 t)
  i_MAX_USES : ∃ t, mg "MAX_USES" = some (.int 9 t)
  cl_Disk : Cls K (He.ga K "Disk")
  mk_Disk : Mk K (He.ga K "Disk") (He.ma K (He.ga K "Disk") "__init__")
  na_Disk_shown : NoAttr K (He.ga K "Disk") "shown"
  na_Disk_synced : NoAttr K (He.ga K "Disk") "synced"
  na_Disk_waiting : NoAttr K (He.ga K "Disk") "waiting"
  na_Disk_tally : NoAttr K (He.ga K "Disk") "tally"
  cl_Rules : Cls K (He.ga K "Rules")
  mk_Rules : Mk K (He.ga K "Rules") (He.ma K (He.ga K "Rules") "__init__")
  na_Rules_parts : NoAttr K (He.ga K "Rules") "parts"
  cl_Recipes : Cls K (He.ga K "Recipes")
  mk_Recipes : Mk K (He.ga K "Recipes") (He.ma K (He.ga K "Recipes") "__init__")
  na_Recipes_parts : NoAttr K (He.ga K "Recipes") "parts"
  cl_Pair : Cls K (He.ga K "Pair")
  mk_Pair : Mk K (He.ga K "Pair") (He.ma K (He.ga K "Pair") "__init__")
  na_Pair_slow : NoAttr K (He.ga K "Pair") "slow"
  na_Pair_fast : NoAttr K (He.ga K "Pair") "fast"
  na_Pair_past : NoAttr K (He.ga K "Pair") "past"
  na_Pair_rule : NoAttr K (He.ga K "Pair") "rule"
  na_Pair_order : NoAttr K (He.ga K "Pair") "order"
  na_Pair_slots : NoAttr K (He.ga K "Pair") "slots"
  na_Pair_turn : NoAttr K (He.ga K "Pair") "turn"
  na_Pair_begun : NoAttr K (He.ga K "Pair") "begun"
  na_Pair_found : NoAttr K (He.ga K "Pair") "found"
  na_Pair_left : NoAttr K (He.ga K "Pair") "left"
  na_Pair_is_powered : NoAttr K (He.ga K "Pair") "is_powered"
  na_Pair_is_done : NoAttr K (He.ga K "Pair") "is_done"
  na_Pair_writes : NoAttr K (He.ga K "Pair") "writes"
  mt_Disk_check : Meth K (He.ga K "Disk") "check" (He.ma K (He.ga K "Disk") "check")
  mt_Disk_read : Meth K (He.ga K "Disk") "read" (He.ma K (He.ga K "Disk") "read")
  mt_Disk_write : Meth K (He.ga K "Disk") "write" (He.ma K (He.ga K "Disk") "write")
  mt_Disk_sync : Meth K (He.ga K "Disk") "sync" (He.ma K (He.ga K "Disk") "sync")
  mt_Disk_after_failure : Meth K (He.ga K "Disk") "after_failure" (He.ma K (He.ga K "Disk") "after_failure")
  mt_Disk_fail : Meth K (He.ga K "Disk") "fail" (He.ma K (He.ga K "Disk") "fail")
  mt_Pair_need_on : Meth K (He.ga K "Pair") "need_on" (He.ma K (He.ga K "Pair") "need_on")
  mt_Pair_check_block : Meth K (He.ga K "Pair") "check_block" (He.ma K (He.ga K "Pair") "check_block")
  mt_Pair_turn_off : Meth K (He.ga K "Pair") "turn_off" (He.ma K (He.ga K "Pair") "turn_off")
  mt_Pair_step : Meth K (He.ga K "Pair") "step" (He.ma K (He.ga K "Pair") "step")
  mt_Pair_write_slow : Meth K (He.ga K "Pair") "write_slow" (He.ma K (He.ga K "Pair") "write_slow")
  mt_Pair_sync_slow : Meth K (He.ga K "Pair") "sync_slow" (He.ma K (He.ga K "Pair") "sync_slow")
  mt_Pair_write_fast : Meth K (He.ga K "Pair") "write_fast" (He.ma K (He.ga K "Pair") "write_fast")
  mt_Pair_sync_fast : Meth K (He.ga K "Pair") "sync_fast" (He.ma K (He.ga K "Pair") "sync_fast")
  mt_Pair_slot_of : Meth K (He.ga K "Pair") "slot_of" (He.ma K (He.ga K "Pair") "slot_of")
  mt_Pair_begin : Meth K (He.ga K "Pair") "begin" (He.ma K (He.ga K "Pair") "begin")
  mt_Pair_put : Meth K (He.ga K "Pair") "put" (He.ma K (He.ga K "Pair") "put")
  mt_Pair_dirty_slots : Meth K (He.ga K "Pair") "dirty_slots" (He.ma K (He.ga K "Pair") "dirty_slots")
  mt_Pair_chosen : Meth K (He.ga K "Pair") "chosen" (He.ma K (He.ga K "Pair") "chosen")
  mt_Pair_take : Meth K (He.ga K "Pair") "take" (He.ma K (He.ga K "Pair") "take")
  mt_Pair_clean_slot : Meth K (He.ga K "Pair") "clean_slot" (He.ma K (He.ga K "Pair") "clean_slot")
  mt_Pair_read : Meth K (He.ga K "Pair") "read" (He.ma K (He.ga K "Pair") "read")
  mt_Pair_write : Meth K (He.ga K "Pair") "write" (He.ma K (He.ga K "Pair") "write")
  mt_Pair_carry_out : Meth K (He.ga K "Pair") "carry_out" (He.ma K (He.ga K "Pair") "carry_out")
  mt_Pair_keep_bound : Meth K (He.ga K "Pair") "keep_bound" (He.ma K (He.ga K "Pair") "keep_bound")
  mt_Pair_cut : Meth K (He.ga K "Pair") "cut" (He.ma K (He.ga K "Pair") "cut")
  mt_Pair_restart : Meth K (He.ga K "Pair") "restart" (He.ma K (He.ga K "Pair") "restart")
  mt_Pair_learn : Meth K (He.ga K "Pair") "learn" (He.ma K (He.ga K "Pair") "learn")
  F_P_is_int : FunD K "is_int" "is_int" (defArgs s_P_is_int) (defBody s_P_is_int) (defScope s_P_is_int) [] [] (He.ga K "is_int") (fdOf K (He.ga K "is_int"))
  F_P_is_int_in : FunD K "is_int_in" "is_int_in" (defArgs s_P_is_int_in) (defBody s_P_is_int_in) (defScope s_P_is_int_in) [] [] (He.ga K "is_int_in") (fdOf K (He.ga K "is_int_in"))
  F_P_are_ascending : FunD K "are_ascending" "are_ascending" (defArgs s_P_are_ascending) (defBody s_P_are_ascending) (defScope s_P_are_ascending) [] [] (He.ga K "are_ascending") (fdOf K (He.ga K "are_ascending"))
  F_D_init : FunD K "__init__" "Disk.__init__" (defArgs s_D_init) (defBody s_D_init) (defScope s_D_init) [] [(("content" : PySem.Str), V.int 0)] (He.ma K (He.ga K "Disk") "__init__") (fdOf K (He.ma K (He.ga K "Disk") "__init__"))
  F_D_check : FunD K "check" "Disk.check" (defArgs s_D_check) (defBody s_D_check) (defScope s_D_check) [] [] (He.ma K (He.ga K "Disk") "check") (fdOf K (He.ma K (He.ga K "Disk") "check"))
  F_D_read : FunD K "read" "Disk.read" (defArgs s_D_read) (defBody s_D_read) (defScope s_D_read) [] [] (He.ma K (He.ga K "Disk") "read") (fdOf K (He.ma K (He.ga K "Disk") "read"))
  F_D_write : FunD K "write" "Disk.write" (defArgs s_D_write) (defBody s_D_write) (defScope s_D_write) [] [] (He.ma K (He.ga K "Disk") "write") (fdOf K (He.ma K (He.ga K "Disk") "write"))
  F_D_sync : FunD K "sync" "Disk.sync" (defArgs s_D_sync) (defBody s_D_sync) (defScope s_D_sync) [] [] (He.ma K (He.ga K "Disk") "sync") (fdOf K (He.ma K (He.ga K "Disk") "sync"))
  F_D_after_failure : FunD K "after_failure" "Disk.after_failure" (defArgs s_D_after_failure) (defBody s_D_after_failure) (defScope s_D_after_failure) [] [] (He.ma K (He.ga K "Disk") "after_failure") (fdOf K (He.ma K (He.ga K "Disk") "after_failure"))
  F_D_fail : FunD K "fail" "Disk.fail" (defArgs s_D_fail) (defBody s_D_fail) (defScope s_D_fail) [] [] (He.ma K (He.ga K "Disk") "fail") (fdOf K (He.ma K (He.ga K "Disk") "fail"))
  F_D_pending : FunD K "pending" "Disk.pending" (defArgs s_D_pending) (defBody s_D_pending) (defScope s_D_pending) [] [] (gf K (He.ma K (He.ga K "Disk") "pending")) (fdOf K (gf K (He.ma K (He.ga K "Disk") "pending")))
  F_Rr_init : FunD K "__init__" "Rules.__init__" (defArgs s_Rr_init) (defBody s_Rr_init) (defScope s_Rr_init) [] [] (He.ma K (He.ga K "Rules") "__init__") (fdOf K (He.ma K (He.ga K "Rules") "__init__"))
  F_Rr_writing : FunD K "writing" "Rules.writing" (defArgs s_Rr_writing) (defBody s_Rr_writing) (defScope s_Rr_writing) [] [] (gf K (He.ma K (He.ga K "Rules") "writing")) (fdOf K (gf K (He.ma K (He.ga K "Rules") "writing")))
  F_Rr_reading : FunD K "reading" "Rules.reading" (defArgs s_Rr_reading) (defBody s_Rr_reading) (defScope s_Rr_reading) [] [] (gf K (He.ma K (He.ga K "Rules") "reading")) (fdOf K (gf K (He.ma K (He.ga K "Rules") "reading")))
  F_Rr_choice : FunD K "choice" "Rules.choice" (defArgs s_Rr_choice) (defBody s_Rr_choice) (defScope s_Rr_choice) [] [] (gf K (He.ma K (He.ga K "Rules") "choice")) (fdOf K (gf K (He.ma K (He.ga K "Rules") "choice")))
  F_Rr_bound : FunD K "bound" "Rules.bound" (defArgs s_Rr_bound) (defBody s_Rr_bound) (defScope s_Rr_bound) [] [] (gf K (He.ma K (He.ga K "Rules") "bound")) (fdOf K (gf K (He.ma K (He.ga K "Rules") "bound")))
  F_P_check_recipe : FunD K "check_recipe" "check_recipe" (defArgs s_P_check_recipe) (defBody s_P_check_recipe) (defScope s_P_check_recipe) [] [] (He.ga K "check_recipe") (fdOf K (He.ga K "check_recipe"))
  F_Rc_init : FunD K "__init__" "Recipes.__init__" (defArgs s_Rc_init) (defBody s_Rc_init) (defScope s_Rc_init) [] [] (He.ma K (He.ga K "Recipes") "__init__") (fdOf K (He.ma K (He.ga K "Recipes") "__init__"))
  F_Rc_clean : FunD K "clean" "Recipes.clean" (defArgs s_Rc_clean) (defBody s_Rc_clean) (defScope s_Rc_clean) [] [] (gf K (He.ma K (He.ga K "Recipes") "clean")) (fdOf K (gf K (He.ma K (He.ga K "Recipes") "clean")))
  F_P_recipe_of : FunD K "recipe_of" "recipe_of" (defArgs s_P_recipe_of) (defBody s_P_recipe_of) (defScope s_P_recipe_of) [] [] (He.ga K "recipe_of") (fdOf K (He.ga K "recipe_of"))
  F_P_check_sizes : FunD K "check_sizes" "check_sizes" (defArgs s_P_check_sizes) (defBody s_P_check_sizes) (defScope s_P_check_sizes) [.int 16, .int 8] [] (He.ga K "check_sizes") (fdOf K (He.ga K "check_sizes"))
  F_P_best_dirty : FunD K "best_dirty" "best_dirty" (defArgs s_P_best_dirty) (defBody s_P_best_dirty) (defScope s_P_best_dirty) [] [] (He.ga K "best_dirty") (fdOf K (He.ga K "best_dirty"))
  F_P_init : FunD K "__init__" "Pair.__init__" (defArgs s_P_init) (defBody s_P_init) (defScope s_P_init) [] [(("recipes" : PySem.Str), V.non)] (He.ma K (He.ga K "Pair") "__init__") (fdOf K (He.ma K (He.ga K "Pair") "__init__"))
  F_P_need_on : FunD K "need_on" "Pair.need_on" (defArgs s_P_need_on) (defBody s_P_need_on) (defScope s_P_need_on) [] [] (He.ma K (He.ga K "Pair") "need_on") (fdOf K (He.ma K (He.ga K "Pair") "need_on"))
  F_P_check_block : FunD K "check_block" "Pair.check_block" (defArgs s_P_check_block) (defBody s_P_check_block) (defScope s_P_check_block) [] [] (He.ma K (He.ga K "Pair") "check_block") (fdOf K (He.ma K (He.ga K "Pair") "check_block"))
  F_P_turn_off : FunD K "turn_off" "Pair.turn_off" (defArgs s_P_turn_off) (defBody s_P_turn_off) (defScope s_P_turn_off) [] [] (He.ma K (He.ga K "Pair") "turn_off") (fdOf K (He.ma K (He.ga K "Pair") "turn_off"))
  F_P_step : FunD K "step" "Pair.step" (defArgs s_P_step) (defBody s_P_step) (defScope s_P_step) [] [] (He.ma K (He.ga K "Pair") "step") (fdOf K (He.ma K (He.ga K "Pair") "step"))
  F_P_write_slow : FunD K "write_slow" "Pair.write_slow" (defArgs s_P_write_slow) (defBody s_P_write_slow) (defScope s_P_write_slow) [] [] (He.ma K (He.ga K "Pair") "write_slow") (fdOf K (He.ma K (He.ga K "Pair") "write_slow"))
  F_P_sync_slow : FunD K "sync_slow" "Pair.sync_slow" (defArgs s_P_sync_slow) (defBody s_P_sync_slow) (defScope s_P_sync_slow) [] [] (He.ma K (He.ga K "Pair") "sync_slow") (fdOf K (He.ma K (He.ga K "Pair") "sync_slow"))
  F_P_write_fast : FunD K "write_fast" "Pair.write_fast" (defArgs s_P_write_fast) (defBody s_P_write_fast) (defScope s_P_write_fast) [] [] (He.ma K (He.ga K "Pair") "write_fast") (fdOf K (He.ma K (He.ga K "Pair") "write_fast"))
  F_P_sync_fast : FunD K "sync_fast" "Pair.sync_fast" (defArgs s_P_sync_fast) (defBody s_P_sync_fast) (defScope s_P_sync_fast) [] [] (He.ma K (He.ga K "Pair") "sync_fast") (fdOf K (He.ma K (He.ga K "Pair") "sync_fast"))
  F_P_slot_of : FunD K "slot_of" "Pair.slot_of" (defArgs s_P_slot_of) (defBody s_P_slot_of) (defScope s_P_slot_of) [] [] (He.ma K (He.ga K "Pair") "slot_of") (fdOf K (He.ma K (He.ga K "Pair") "slot_of"))
  F_P_begin : FunD K "begin" "Pair.begin" (defArgs s_P_begin) (defBody s_P_begin) (defScope s_P_begin) [] [] (He.ma K (He.ga K "Pair") "begin") (fdOf K (He.ma K (He.ga K "Pair") "begin"))
  F_P_put : FunD K "put" "Pair.put" (defArgs s_P_put) (defBody s_P_put) (defScope s_P_put) [] [] (He.ma K (He.ga K "Pair") "put") (fdOf K (He.ma K (He.ga K "Pair") "put"))
  F_P_dirty_slots : FunD K "dirty_slots" "Pair.dirty_slots" (defArgs s_P_dirty_slots) (defBody s_P_dirty_slots) (defScope s_P_dirty_slots) [] [] (He.ma K (He.ga K "Pair") "dirty_slots") (fdOf K (He.ma K (He.ga K "Pair") "dirty_slots"))
  F_P_chosen : FunD K "chosen" "Pair.chosen" (defArgs s_P_chosen) (defBody s_P_chosen) (defScope s_P_chosen) [] [] (He.ma K (He.ga K "Pair") "chosen") (fdOf K (He.ma K (He.ga K "Pair") "chosen"))
  F_P_take : FunD K "take" "Pair.take" (defArgs s_P_take) (defBody s_P_take) (defScope s_P_take) [] [] (He.ma K (He.ga K "Pair") "take") (fdOf K (He.ma K (He.ga K "Pair") "take"))
  F_P_clean_slot : FunD K "clean_slot" "Pair.clean_slot" (defArgs s_P_clean_slot) (defBody s_P_clean_slot) (defScope s_P_clean_slot) [] [] (He.ma K (He.ga K "Pair") "clean_slot") (fdOf K (He.ma K (He.ga K "Pair") "clean_slot"))
  F_P_read : FunD K "read" "Pair.read" (defArgs s_P_read) (defBody s_P_read) (defScope s_P_read) [] [] (He.ma K (He.ga K "Pair") "read") (fdOf K (He.ma K (He.ga K "Pair") "read"))
  F_P_write : FunD K "write" "Pair.write" (defArgs s_P_write) (defBody s_P_write) (defScope s_P_write) [] [] (He.ma K (He.ga K "Pair") "write") (fdOf K (He.ma K (He.ga K "Pair") "write"))
  F_P_carry_out : FunD K "carry_out" "Pair.carry_out" (defArgs s_P_carry_out) (defBody s_P_carry_out) (defScope s_P_carry_out) [] [] (He.ma K (He.ga K "Pair") "carry_out") (fdOf K (He.ma K (He.ga K "Pair") "carry_out"))
  F_P_keep_bound : FunD K "keep_bound" "Pair.keep_bound" (defArgs s_P_keep_bound) (defBody s_P_keep_bound) (defScope s_P_keep_bound) [] [] (He.ma K (He.ga K "Pair") "keep_bound") (fdOf K (He.ma K (He.ga K "Pair") "keep_bound"))
  F_P_cut : FunD K "cut" "Pair.cut" (defArgs s_P_cut) (defBody s_P_cut) (defScope s_P_cut) [] [] (He.ma K (He.ga K "Pair") "cut") (fdOf K (He.ma K (He.ga K "Pair") "cut"))
  F_P_restart : FunD K "restart" "Pair.restart" (defArgs s_P_restart) (defBody s_P_restart) (defScope s_P_restart) [] [] (He.ma K (He.ga K "Pair") "restart") (fdOf K (He.ma K (He.ga K "Pair") "restart"))
  F_P_learn : FunD K "learn" "Pair.learn" (defArgs s_P_learn) (defBody s_P_learn) (defScope s_P_learn) [] [] (He.ma K (He.ga K "Pair") "learn") (fdOf K (He.ma K (He.ga K "Pair") "learn"))
  F_P_block_values : FunD K "block_values" "Pair.block_values" (defArgs s_P_block_values) (defBody s_P_block_values) (defScope s_P_block_values) [] [] (gf K (He.ma K (He.ga K "Pair") "block_values")) (fdOf K (gf K (He.ma K (He.ga K "Pair") "block_values")))
  F_P_known : FunD K "known" "Pair.known" (defArgs s_P_known) (defBody s_P_known) (defScope s_P_known) [] [] (gf K (He.ma K (He.ga K "Pair") "known")) (fdOf K (gf K (He.ma K (He.ga K "Pair") "known")))
  F_P_dirty : FunD K "dirty" "Pair.dirty" (defArgs s_P_dirty) (defBody s_P_dirty) (defScope s_P_dirty) [] [] (gf K (He.ma K (He.ga K "Pair") "dirty")) (fdOf K (gf K (He.ma K (He.ga K "Pair") "dirty")))
  F_P_hits : FunD K "hits" "Pair.hits" (defArgs s_P_hits) (defBody s_P_hits) (defScope s_P_hits) [] [] (gf K (He.ma K (He.ga K "Pair") "hits")) (fdOf K (gf K (He.ma K (He.ga K "Pair") "hits")))
  F_P_requests : FunD K "requests" "Pair.requests" (defArgs s_P_requests) (defBody s_P_requests) (defScope s_P_requests) [] [] (gf K (He.ma K (He.ga K "Pair") "requests")) (fdOf K (gf K (He.ma K (He.ga K "Pair") "requests")))
  F_P_counts : FunD K "counts" "Pair.counts" (defArgs s_P_counts) (defBody s_P_counts) (defScope s_P_counts) [] [] (gf K (He.ma K (He.ga K "Pair") "counts")) (fdOf K (gf K (He.ma K (He.ga K "Pair") "counts")))
  F_P_pending : FunD K "pending" "Pair.pending" (defArgs s_P_pending) (defBody s_P_pending) (defScope s_P_pending) [] [] (gf K (He.ma K (He.ga K "Pair") "pending")) (fdOf K (gf K (He.ma K (He.ga K "Pair") "pending")))
  F_P_is_on : FunD K "is_on" "Pair.is_on" (defArgs s_P_is_on) (defBody s_P_is_on) (defScope s_P_is_on) [] [] (gf K (He.ma K (He.ga K "Pair") "is_on")) (fdOf K (gf K (He.ma K (He.ga K "Pair") "is_on")))
  F_L_random : FunD K "_law_random" "_law_random" (defArgs s_L_random) (defBody s_L_random) (defScope s_L_random) [] [] (He.ga K "_law_random") (fdOf K (He.ga K "_law_random"))
  F_L_safe : FunD K "_law_safe" "_law_safe" (defArgs s_L_safe) (defBody s_L_safe) (defScope s_L_safe) [] [] (He.ga K "_law_safe") (fdOf K (He.ga K "_law_safe"))
  F_L_below : FunD K "_law_below" "_law_below" (defArgs s_L_below) (defBody s_L_below) (defScope s_L_below) [] [] (He.ga K "_law_below") (fdOf K (He.ga K "_law_below"))
  F_L_shuffled : FunD K "_law_shuffled" "_law_shuffled" (defArgs s_L_shuffled) (defBody s_L_shuffled) (defScope s_L_shuffled) [] [] (He.ga K "_law_shuffled") (fdOf K (He.ga K "_law_shuffled"))
  F_L_recipe : FunD K "_law_recipe" "_law_recipe" (defArgs s_L_recipe) (defBody s_L_recipe) (defScope s_L_recipe) [] [] (He.ga K "_law_recipe") (fdOf K (He.ga K "_law_recipe"))
  F_L_recipes : FunD K "_law_recipes" "_law_recipes" (defArgs s_L_recipes) (defBody s_L_recipes) (defScope s_L_recipes) [] [] (He.ga K "_law_recipes") (fdOf K (He.ga K "_law_recipes"))
  F_L_rules : FunD K "_law_rules" "_law_rules" (defArgs s_L_rules) (defBody s_L_rules) (defScope s_L_rules) [] [] (He.ga K "_law_rules") (fdOf K (He.ga K "_law_rules"))
  F_L_pair : FunD K "_law_pair" "_law_pair" (defArgs s_L_pair) (defBody s_L_pair) (defScope s_L_pair) [] [] (He.ga K "_law_pair") (fdOf K (He.ga K "_law_pair"))
  F_L_disk : FunD K "_law_disk" "_law_disk" (defArgs s_L_disk) (defBody s_L_disk) (defScope s_L_disk) [] [] (He.ga K "_law_disk") (fdOf K (He.ga K "_law_disk"))
  F_L_new : FunD K "_law_new" "_law_new" (defArgs s_L_new) (defBody s_L_new) (defScope s_L_new) [] [] (He.ga K "_law_new") (fdOf K (He.ga K "_law_new"))
  F_L_both : FunD K "_law_both" "_law_both" (defArgs s_L_both) (defBody s_L_both) (defScope s_L_both) [] [] (He.ga K "_law_both") (fdOf K (He.ga K "_law_both"))
  F_L_slot : FunD K "_law_slot" "_law_slot" (defArgs s_L_slot) (defBody s_L_slot) (defScope s_L_slot) [] [] (He.ga K "_law_slot") (fdOf K (He.ga K "_law_slot"))
  F_L_begin : FunD K "_law_begin" "_law_begin" (defArgs s_L_begin) (defBody s_L_begin) (defScope s_L_begin) [] [] (He.ga K "_law_begin") (fdOf K (He.ga K "_law_begin"))
  F_L_oldest : FunD K "_law_oldest" "_law_oldest" (defArgs s_L_oldest) (defBody s_L_oldest) (defScope s_L_oldest) [] [] (He.ga K "_law_oldest") (fdOf K (He.ga K "_law_oldest"))
  F_L_clean : FunD K "_law_clean" "_law_clean" (defArgs s_L_clean) (defBody s_L_clean) (defScope s_L_clean) [] [] (He.ga K "_law_clean") (fdOf K (He.ga K "_law_clean"))
  F_L_take : FunD K "_law_take" "_law_take" (defArgs s_L_take) (defBody s_L_take) (defScope s_L_take) [] [] (He.ga K "_law_take") (fdOf K (He.ga K "_law_take"))
  F_L_know : FunD K "_law_know" "_law_know" (defArgs s_L_know) (defBody s_L_know) (defScope s_L_know) [] [] (He.ga K "_law_know") (fdOf K (He.ga K "_law_know"))
  F_L_read : FunD K "_law_read" "_law_read" (defArgs s_L_read) (defBody s_L_read) (defScope s_L_read) [] [] (He.ga K "_law_read") (fdOf K (He.ga K "_law_read"))
  F_L_word : FunD K "_law_word" "_law_word" (defArgs s_L_word) (defBody s_L_word) (defScope s_L_word) [] [] (He.ga K "_law_word") (fdOf K (He.ga K "_law_word"))
  F_L_write : FunD K "_law_write" "_law_write" (defArgs s_L_write) (defBody s_L_write) (defScope s_L_write) [] [] (He.ga K "_law_write") (fdOf K (He.ga K "_law_write"))
  F_L_plan : FunD K "_law_plan" "_law_plan" (defArgs s_L_plan) (defBody s_L_plan) (defScope s_L_plan) [] [] (He.ga K "_law_plan") (fdOf K (He.ga K "_law_plan"))
  F_L_sync : FunD K "_law_sync" "_law_sync" (defArgs s_L_sync) (defBody s_L_sync) (defScope s_L_sync) [] [] (He.ga K "_law_sync") (fdOf K (He.ga K "_law_sync"))
  F_L_put : FunD K "_law_put" "_law_put" (defArgs s_L_put) (defBody s_L_put) (defScope s_L_put) [] [] (He.ga K "_law_put") (fdOf K (He.ga K "_law_put"))
  F_L_go : FunD K "_law_go" "_law_go" (defArgs s_L_go) (defBody s_L_go) (defScope s_L_go) [] [] (He.ga K "_law_go") (fdOf K (He.ga K "_law_go"))
  F_L_power_of : FunD K "_law_power_of" "_law_power_of" (defArgs s_L_power_of) (defBody s_L_power_of) (defScope s_L_power_of) [] [] (He.ga K "_law_power_of") (fdOf K (He.ga K "_law_power_of"))
  F_L_do : FunD K "_law_do" "_law_do" (defArgs s_L_do) (defBody s_L_do) (defScope s_L_do) [] [] (He.ga K "_law_do") (fdOf K (He.ga K "_law_do"))
  F_L_equal : FunD K "_law_equal" "_law_equal" (defArgs s_L_equal) (defBody s_L_equal) (defScope s_L_equal) [] [] (He.ga K "_law_equal") (fdOf K (He.ga K "_law_equal"))
  F_L_same : FunD K "_law_same" "_law_same" (defArgs s_L_same) (defBody s_L_same) (defScope s_L_same) [] [] (He.ga K "_law_same") (fdOf K (He.ga K "_law_same"))
  F_L_request : FunD K "_law_request" "_law_request" (defArgs s_L_request) (defBody s_L_request) (defScope s_L_request) [] [] (He.ga K "_law_request") (fdOf K (He.ga K "_law_request"))
  F_L_fail : FunD K "_law_fail" "_law_fail" (defArgs s_L_fail) (defBody s_L_fail) (defScope s_L_fail) [] [] (He.ga K "_law_fail") (fdOf K (He.ga K "_law_fail"))
  F_L_best : FunD K "_law_best" "_law_best" (defArgs s_L_best) (defBody s_L_best) (defScope s_L_best) [] [] (He.ga K "_law_best") (fdOf K (He.ga K "_law_best"))
  F_L_restart : FunD K "_law_restart" "_law_restart" (defArgs s_L_restart) (defBody s_L_restart) (defScope s_L_restart) [] [] (He.ga K "_law_restart") (fdOf K (He.ga K "_law_restart"))
  F_L_counts : FunD K "_law_counts" "_law_counts" (defArgs s_L_counts) (defBody s_L_counts) (defScope s_L_counts) [] [] (He.ga K "_law_counts") (fdOf K (He.ga K "_law_counts"))
  F_L_values : FunD K "_law_values" "_law_values" (defArgs s_L_values) (defBody s_L_values) (defScope s_L_values) [] [] (He.ga K "_law_values") (fdOf K (He.ga K "_law_values"))
  F_L_shown : FunD K "_law_shown" "_law_shown" (defArgs s_L_shown) (defBody s_L_shown) (defScope s_L_shown) [] [] (He.ga K "_law_shown") (fdOf K (He.ga K "_law_shown"))
  F_L_stands : FunD K "_law_stands" "_law_stands" (defArgs s_L_stands) (defBody s_L_stands) (defScope s_L_stands) [] [] (He.ga K "_law_stands") (fdOf K (He.ga K "_law_stands"))
  F_L_main : FunD K "law" "law" (defArgs s_L_main) (defBody s_L_main) (defScope s_L_main) [] [] (He.ga K "law") (fdOf K (He.ga K "law"))
  pr_Disk_pending : PropOf K (He.ga K "Disk") "pending" (He.ma K (He.ga K "Disk") "pending") (gf K (He.ma K (He.ga K "Disk") "pending"))
  pr_Rules_writing : PropOf K (He.ga K "Rules") "writing" (He.ma K (He.ga K "Rules") "writing") (gf K (He.ma K (He.ga K "Rules") "writing"))
  pr_Rules_reading : PropOf K (He.ga K "Rules") "reading" (He.ma K (He.ga K "Rules") "reading") (gf K (He.ma K (He.ga K "Rules") "reading"))
  pr_Rules_choice : PropOf K (He.ga K "Rules") "choice" (He.ma K (He.ga K "Rules") "choice") (gf K (He.ma K (He.ga K "Rules") "choice"))
  pr_Rules_bound : PropOf K (He.ga K "Rules") "bound" (He.ma K (He.ga K "Rules") "bound") (gf K (He.ma K (He.ga K "Rules") "bound"))
  pr_Recipes_clean : PropOf K (He.ga K "Recipes") "clean" (He.ma K (He.ga K "Recipes") "clean") (gf K (He.ma K (He.ga K "Recipes") "clean"))
  pr_Pair_block_values : PropOf K (He.ga K "Pair") "block_values" (He.ma K (He.ga K "Pair") "block_values") (gf K (He.ma K (He.ga K "Pair") "block_values"))
  pr_Pair_known : PropOf K (He.ga K "Pair") "known" (He.ma K (He.ga K "Pair") "known") (gf K (He.ma K (He.ga K "Pair") "known"))
  pr_Pair_dirty : PropOf K (He.ga K "Pair") "dirty" (He.ma K (He.ga K "Pair") "dirty") (gf K (He.ma K (He.ga K "Pair") "dirty"))
  pr_Pair_hits : PropOf K (He.ga K "Pair") "hits" (He.ma K (He.ga K "Pair") "hits") (gf K (He.ma K (He.ga K "Pair") "hits"))
  pr_Pair_requests : PropOf K (He.ga K "Pair") "requests" (He.ma K (He.ga K "Pair") "requests") (gf K (He.ma K (He.ga K "Pair") "requests"))
  pr_Pair_counts : PropOf K (He.ga K "Pair") "counts" (He.ma K (He.ga K "Pair") "counts") (gf K (He.ma K (He.ga K "Pair") "counts"))
  pr_Pair_pending : PropOf K (He.ga K "Pair") "pending" (He.ma K (He.ga K "Pair") "pending") (gf K (He.ma K (He.ga K "Pair") "pending"))
  pr_Pair_is_on : PropOf K (He.ga K "Pair") "is_on" (He.ma K (He.ga K "Pair") "is_on") (gf K (He.ma K (He.ga K "Pair") "is_on"))
  t_WORDS : ∀ H : Hp, SqT K H (He.ga K "WORDS") [.ref (itA K "WORDS" 0), .ref (itA K "WORDS" 1), .ref (itA K "WORDS" 2)]
  t_WORDS0 : ∀ H : Hp, SqT K H (itA K "WORDS" 0) [.str "through", .str "back", .str "around"]
  t_WORDS1 : ∀ H : Hp, SqT K H (itA K "WORDS" 1) [.str "keep", .str "pass"]
  t_WORDS2 : ∀ H : Hp, SqT K H (itA K "WORDS" 2) [.str "used", .str "came", .str "rare"]
  t_KINDS : ∀ H : Hp, SqT K H (He.ga K "KINDS") [.str "through", .str "back", .str "around", .str "clean"]
  y_KINDS : ∃ o, K.lookup (He.ga K "KINDS") = some o ∧ o.cls = .type "tuple" ∧ o.dict = none
  t_SYNCS : ∀ H : Hp, SqT K H (He.ga K "SYNCS") [.str "sync slow", .str "sync fast"]
  t_WRITE_STEPS : ∀ H : Hp, SqT K H (He.ga K "WRITE_STEPS") [.str "slow", .str "sync slow", .str "fast", .str "sync fast", .str "free", .str "done"]
  t_CLEAN_STEPS : ∀ H : Hp, SqT K H (He.ga K "CLEAN_STEPS") [.str "slow", .str "sync slow", .str "mark", .str "sync fast"]
  t_STEPS : ∀ H : Hp, SqT K H (He.ga K "STEPS") [.ref (He.ga K "WRITE_STEPS"), .ref (He.ga K "WRITE_STEPS"), .ref (He.ga K "WRITE_STEPS"), .ref (He.ga K "CLEAN_STEPS")]
  ga_WORDS : mg "WORDS" = some (.ref (He.ga K "WORDS"))
  ga_KINDS : mg "KINDS" = some (.ref (He.ga K "KINDS"))
  ga_SYNCS : mg "SYNCS" = some (.ref (He.ga K "SYNCS"))
  ga_WRITE_STEPS : mg "WRITE_STEPS" = some (.ref (He.ga K "WRITE_STEPS"))
  ga_CLEAN_STEPS : mg "CLEAN_STEPS" = some (.ref (He.ga K "CLEAN_STEPS"))
  ga_STEPS : mg "STEPS" = some (.ref (He.ga K "STEPS"))
  ga_law : mg "law" = some (.ref (He.ga K "law"))
theorem txt_of {K : PySem.W.Frag} {h : Heap} {mg : Str → Option Value} (X : K.In h) (G : h.Ns mainGlobals mg) (c : Says h K) : Txt K mg := by
  obtain ⟨hp, hx⟩ := He.ba (show ((props.all fun p => propB K p.1 p.2) && (((tups K).all fun p => tupA K p.1 p.2) && (["WORDS", "KINDS", "SYNCS", "WRITE_STEPS", "CLEAN_STEPS", "STEPS", "law"].all fun x => gaB K x))) = true from c.ex)
  obtain ⟨ht, hg⟩ := He.ba hx
  exact {
    g_PowerFailed := He.glo_ok X G (c.fa _ (List.mem_of_getElem? (l := fa) (i := 0) rfl))
    g_is_int := He.glo_ok X G (c.fa _ (List.mem_of_getElem? (l := fa) (i := 1) rfl))
    g_is_int_in := He.glo_ok X G (c.fa _ (List.mem_of_getElem? (l := fa) (i := 2) rfl))
    g_are_ascending := He.glo_ok X G (c.fa _ (List.mem_of_getElem? (l := fa) (i := 3) rfl))
    g_Disk := He.glo_ok X G (c.fa _ (List.mem_of_getElem? (l := fa) (i := 4) rfl))
    g_Rules := He.glo_ok X G (c.fa _ (List.mem_of_getElem? (l := fa) (i := 5) rfl))
    g_check_recipe := He.glo_ok X G (c.fa _ (List.mem_of_getElem? (l := fa) (i := 6) rfl))
    g_Recipes := He.glo_ok X G (c.fa _ (List.mem_of_getElem? (l := fa) (i := 7) rfl))
    g_recipe_of := He.glo_ok X G (c.fa _ (List.mem_of_getElem? (l := fa) (i := 8) rfl))
    g_check_sizes := He.glo_ok X G (c.fa _ (List.mem_of_getElem? (l := fa) (i := 9) rfl))
    g_best_dirty := He.glo_ok X G (c.fa _ (List.mem_of_getElem? (l := fa) (i := 10) rfl))
    g_Pair := He.glo_ok X G (c.fa _ (List.mem_of_getElem? (l := fa) (i := 11) rfl))
    g_Lrandom := He.glo_ok X G (c.fa _ (List.mem_of_getElem? (l := fa) (i := 12) rfl))
    g_Lsafe := He.glo_ok X G (c.fa _ (List.mem_of_getElem? (l := fa) (i := 13) rfl))
    g_Lbelow := He.glo_ok X G (c.fa _ (List.mem_of_getElem? (l := fa) (i := 14) rfl))
    g_Lshuffled := He.glo_ok X G (c.fa _ (List.mem_of_getElem? (l := fa) (i := 15) rfl))
    g_Lrecipe := He.glo_ok X G (c.fa _ (List.mem_of_getElem? (l := fa) (i := 16) rfl))
    g_Lrecipes := He.glo_ok X G (c.fa _ (List.mem_of_getElem? (l := fa) (i := 17) rfl))
    g_Lrules := He.glo_ok X G (c.fa _ (List.mem_of_getElem? (l := fa) (i := 18) rfl))
    g_Lpair := He.glo_ok X G (c.fa _ (List.mem_of_getElem? (l := fa) (i := 19) rfl))
    g_Ldisk := He.glo_ok X G (c.fa _ (List.mem_of_getElem? (l := fa) (i := 20) rfl))
    g_Lnew := He.glo_ok X G (c.fa _ (List.mem_of_getElem? (l := fa) (i := 21) rfl))
    g_Lboth := He.glo_ok X G (c.fa _ (List.mem_of_getElem? (l := fa) (i := 22) rfl))
    g_Lslot := He.glo_ok X G (c.fa _ (List.mem_of_getElem? (l := fa) (i := 23) rfl))
    g_Lbegin := He.glo_ok X G (c.fa _ (List.mem_of_getElem? (l := fa) (i := 24) rfl))
    g_Loldest := He.glo_ok X G (c.fa _ (List.mem_of_getElem? (l := fa) (i := 25) rfl))
    g_Lclean := He.glo_ok X G (c.fa _ (List.mem_of_getElem? (l := fa) (i := 26) rfl))
    g_Ltake := He.glo_ok X G (c.fa _ (List.mem_of_getElem? (l := fa) (i := 27) rfl))
    g_Lknow := He.glo_ok X G (c.fa _ (List.mem_of_getElem? (l := fa) (i := 28) rfl))
    g_Lread := He.glo_ok X G (c.fa _ (List.mem_of_getElem? (l := fa) (i := 29) rfl))
    g_Lword := He.glo_ok X G (c.fa _ (List.mem_of_getElem? (l := fa) (i := 30) rfl))
    g_Lwrite := He.glo_ok X G (c.fa _ (List.mem_of_getElem? (l := fa) (i := 31) rfl))
    g_Lplan := He.glo_ok X G (c.fa _ (List.mem_of_getElem? (l := fa) (i := 32) rfl))
    g_Lsync := He.glo_ok X G (c.fa _ (List.mem_of_getElem? (l := fa) (i := 33) rfl))
    g_Lput := He.glo_ok X G (c.fa _ (List.mem_of_getElem? (l := fa) (i := 34) rfl))
    g_Lgo := He.glo_ok X G (c.fa _ (List.mem_of_getElem? (l := fa) (i := 35) rfl))
    g_Lpower_of := He.glo_ok X G (c.fa _ (List.mem_of_getElem? (l := fa) (i := 36) rfl))
    g_Ldo := He.glo_ok X G (c.fa _ (List.mem_of_getElem? (l := fa) (i := 37) rfl))
    g_Lequal := He.glo_ok X G (c.fa _ (List.mem_of_getElem? (l := fa) (i := 38) rfl))
    g_Lsame := He.glo_ok X G (c.fa _ (List.mem_of_getElem? (l := fa) (i := 39) rfl))
    g_Lrequest := He.glo_ok X G (c.fa _ (List.mem_of_getElem? (l := fa) (i := 40) rfl))
    g_Lfail := He.glo_ok X G (c.fa _ (List.mem_of_getElem? (l := fa) (i := 41) rfl))
    g_Lbest := He.glo_ok X G (c.fa _ (List.mem_of_getElem? (l := fa) (i := 42) rfl))
    g_Lrestart := He.glo_ok X G (c.fa _ (List.mem_of_getElem? (l := fa) (i := 43) rfl))
    g_Lcounts := He.glo_ok X G (c.fa _ (List.mem_of_getElem? (l := fa) (i := 44) rfl))
    g_Lvalues := He.glo_ok X G (c.fa _ (List.mem_of_getElem? (l := fa) (i := 45) rfl))
    g_Lshown := He.glo_ok X G (c.fa _ (List.mem_of_getElem? (l := fa) (i := 46) rfl))
    g_Lstands := He.glo_ok X G (c.fa _ (List.mem_of_getElem? (l := fa) (i := 47) rfl))
    g_law := He.glo_ok X G (c.fa _ (List.mem_of_getElem? (l := fa) (i := 48) rfl))
    f_len := He.free_ok X G (c.fa _ (List.mem_of_getElem? (l := fa) (i := 49) rfl))
    f_range := He.free_ok X G (c.fa _ (List.mem_of_getElem? (l := fa) (i := 50) rfl))
    f_sorted := He.free_ok X G (c.fa _ (List.mem_of_getElem? (l := fa) (i := 51) rfl))
    f_min := He.free_ok X G (c.fa _ (List.mem_of_getElem? (l := fa) (i := 52) rfl))
    f_max := He.free_ok X G (c.fa _ (List.mem_of_getElem? (l := fa) (i := 53) rfl))
    f_isinstance := He.free_ok X G (c.fa _ (List.mem_of_getElem? (l := fa) (i := 54) rfl))
    f_int := He.free_ok X G (c.fa _ (List.mem_of_getElem? (l := fa) (i := 55) rfl))
    f_str := He.free_ok X G (c.fa _ (List.mem_of_getElem? (l := fa) (i := 56) rfl))
    f_bool := He.free_ok X G (c.fa _ (List.mem_of_getElem? (l := fa) (i := 57) rfl))
    f_list := He.free_ok X G (c.fa _ (List.mem_of_getElem? (l := fa) (i := 58) rfl))
    f_tuple := He.free_ok X G (c.fa _ (List.mem_of_getElem? (l := fa) (i := 59) rfl))
    f_enumerate := He.free_ok X G (c.fa _ (List.mem_of_getElem? (l := fa) (i := 60) rfl))
    f_zip := He.free_ok X G (c.fa _ (List.mem_of_getElem? (l := fa) (i := 61) rfl))
    f_all := He.free_ok X G (c.fa _ (List.mem_of_getElem? (l := fa) (i := 62) rfl))
    f_abs := He.free_ok X G (c.fa _ (List.mem_of_getElem? (l := fa) (i := 63) rfl))
    s_THROUGH := He.str_ok X G (c.fa _ (List.mem_of_getElem? (l := fa) (i := 64) rfl))
    s_BACK := He.str_ok X G (c.fa _ (List.mem_of_getElem? (l := fa) (i := 65) rfl))
    s_AROUND := He.str_ok X G (c.fa _ (List.mem_of_getElem? (l := fa) (i := 66) rfl))
    s_CLEAN := He.str_ok X G (c.fa _ (List.mem_of_getElem? (l := fa) (i := 67) rfl))
    s_KEEP := He.str_ok X G (c.fa _ (List.mem_of_getElem? (l := fa) (i := 68) rfl))
    s_PASS := He.str_ok X G (c.fa _ (List.mem_of_getElem? (l := fa) (i := 69) rfl))
    s_USED := He.str_ok X G (c.fa _ (List.mem_of_getElem? (l := fa) (i := 70) rfl))
    s_CAME := He.str_ok X G (c.fa _ (List.mem_of_getElem? (l := fa) (i := 71) rfl))
    s_RARE := He.str_ok X G (c.fa _ (List.mem_of_getElem? (l := fa) (i := 72) rfl))
    s_SLOW := He.str_ok X G (c.fa _ (List.mem_of_getElem? (l := fa) (i := 73) rfl))
    s_SYNC_SLOW := He.str_ok X G (c.fa _ (List.mem_of_getElem? (l := fa) (i := 74) rfl))
    s_FAST := He.str_ok X G (c.fa _ (List.mem_of_getElem? (l := fa) (i := 75) rfl))
    s_SYNC_FAST := He.str_ok X G (c.fa _ (List.mem_of_getElem? (l := fa) (i := 76) rfl))
    s_FREE := He.str_ok X G (c.fa _ (List.mem_of_getElem? (l := fa) (i := 77) rfl))
    s_MARK := He.str_ok X G (c.fa _ (List.mem_of_getElem? (l := fa) (i := 78) rfl))
    s_DONE := He.str_ok X G (c.fa _ (List.mem_of_getElem? (l := fa) (i := 79) rfl))
    i_MAX_CELLS := He.int_ok X G (c.fa _ (List.mem_of_getElem? (l := fa) (i := 80) rfl))
    i_MAX_BOUND := He.int_ok X G (c.fa _ (List.mem_of_getElem? (l := fa) (i := 81) rfl))
    i_MAX_STEPS := He.int_ok X G (c.fa _ (List.mem_of_getElem? (l := fa) (i := 82) rfl))
    i_MAX_BLOCKS := He.int_ok X G (c.fa _ (List.mem_of_getElem? (l := fa) (i := 83) rfl))
    i_MAX_SLOTS := He.int_ok X G (c.fa _ (List.mem_of_getElem? (l := fa) (i := 84) rfl))
    i_MAX_VALUE := He.int_ok X G (c.fa _ (List.mem_of_getElem? (l := fa) (i := 85) rfl))
    i_MAX_USES := He.int_ok X G (c.fa _ (List.mem_of_getElem? (l := fa) (i := 86) rfl))
    cl_Disk := He.cls_ok (c.fa _ (List.mem_of_getElem? (l := fa) (i := 87) rfl))
    mk_Disk := He.mkr_ok (c.fa _ (List.mem_of_getElem? (l := fa) (i := 88) rfl))
    na_Disk_shown := He.noat_ok (c.fa _ (List.mem_of_getElem? (l := fa) (i := 89) rfl))
    na_Disk_synced := He.noat_ok (c.fa _ (List.mem_of_getElem? (l := fa) (i := 90) rfl))
    na_Disk_waiting := He.noat_ok (c.fa _ (List.mem_of_getElem? (l := fa) (i := 91) rfl))
    na_Disk_tally := He.noat_ok (c.fa _ (List.mem_of_getElem? (l := fa) (i := 92) rfl))
    cl_Rules := He.cls_ok (c.fa _ (List.mem_of_getElem? (l := fa) (i := 93) rfl))
    mk_Rules := He.mkr_ok (c.fa _ (List.mem_of_getElem? (l := fa) (i := 94) rfl))
    na_Rules_parts := He.noat_ok (c.fa _ (List.mem_of_getElem? (l := fa) (i := 95) rfl))
    cl_Recipes := He.cls_ok (c.fa _ (List.mem_of_getElem? (l := fa) (i := 96) rfl))
    mk_Recipes := He.mkr_ok (c.fa _ (List.mem_of_getElem? (l := fa) (i := 97) rfl))
    na_Recipes_parts := He.noat_ok (c.fa _ (List.mem_of_getElem? (l := fa) (i := 98) rfl))
    cl_Pair := He.cls_ok (c.fa _ (List.mem_of_getElem? (l := fa) (i := 99) rfl))
    mk_Pair := He.mkr_ok (c.fa _ (List.mem_of_getElem? (l := fa) (i := 100) rfl))
    na_Pair_slow := He.noat_ok (c.fa _ (List.mem_of_getElem? (l := fa) (i := 101) rfl))
    na_Pair_fast := He.noat_ok (c.fa _ (List.mem_of_getElem? (l := fa) (i := 102) rfl))
    na_Pair_past := He.noat_ok (c.fa _ (List.mem_of_getElem? (l := fa) (i := 103) rfl))
    na_Pair_rule := He.noat_ok (c.fa _ (List.mem_of_getElem? (l := fa) (i := 104) rfl))
    na_Pair_order := He.noat_ok (c.fa _ (List.mem_of_getElem? (l := fa) (i := 105) rfl))
    na_Pair_slots := He.noat_ok (c.fa _ (List.mem_of_getElem? (l := fa) (i := 106) rfl))
    na_Pair_turn := He.noat_ok (c.fa _ (List.mem_of_getElem? (l := fa) (i := 107) rfl))
    na_Pair_begun := He.noat_ok (c.fa _ (List.mem_of_getElem? (l := fa) (i := 108) rfl))
    na_Pair_found := He.noat_ok (c.fa _ (List.mem_of_getElem? (l := fa) (i := 109) rfl))
    na_Pair_left := He.noat_ok (c.fa _ (List.mem_of_getElem? (l := fa) (i := 110) rfl))
    na_Pair_is_powered := He.noat_ok (c.fa _ (List.mem_of_getElem? (l := fa) (i := 111) rfl))
    na_Pair_is_done := He.noat_ok (c.fa _ (List.mem_of_getElem? (l := fa) (i := 112) rfl))
    na_Pair_writes := He.noat_ok (c.fa _ (List.mem_of_getElem? (l := fa) (i := 113) rfl))
    mt_Disk_check := He.meth_ok (c.fa _ (List.mem_of_getElem? (l := fa) (i := 114) rfl))
    mt_Disk_read := He.meth_ok (c.fa _ (List.mem_of_getElem? (l := fa) (i := 115) rfl))
    mt_Disk_write := He.meth_ok (c.fa _ (List.mem_of_getElem? (l := fa) (i := 116) rfl))
    mt_Disk_sync := He.meth_ok (c.fa _ (List.mem_of_getElem? (l := fa) (i := 117) rfl))
    mt_Disk_after_failure := He.meth_ok (c.fa _ (List.mem_of_getElem? (l := fa) (i := 118) rfl))
    mt_Disk_fail := He.meth_ok (c.fa _ (List.mem_of_getElem? (l := fa) (i := 119) rfl))
    mt_Pair_need_on := He.meth_ok (c.fa _ (List.mem_of_getElem? (l := fa) (i := 120) rfl))
    mt_Pair_check_block := He.meth_ok (c.fa _ (List.mem_of_getElem? (l := fa) (i := 121) rfl))
    mt_Pair_turn_off := He.meth_ok (c.fa _ (List.mem_of_getElem? (l := fa) (i := 122) rfl))
    mt_Pair_step := He.meth_ok (c.fa _ (List.mem_of_getElem? (l := fa) (i := 123) rfl))
    mt_Pair_write_slow := He.meth_ok (c.fa _ (List.mem_of_getElem? (l := fa) (i := 124) rfl))
    mt_Pair_sync_slow := He.meth_ok (c.fa _ (List.mem_of_getElem? (l := fa) (i := 125) rfl))
    mt_Pair_write_fast := He.meth_ok (c.fa _ (List.mem_of_getElem? (l := fa) (i := 126) rfl))
    mt_Pair_sync_fast := He.meth_ok (c.fa _ (List.mem_of_getElem? (l := fa) (i := 127) rfl))
    mt_Pair_slot_of := He.meth_ok (c.fa _ (List.mem_of_getElem? (l := fa) (i := 128) rfl))
    mt_Pair_begin := He.meth_ok (c.fa _ (List.mem_of_getElem? (l := fa) (i := 129) rfl))
    mt_Pair_put := He.meth_ok (c.fa _ (List.mem_of_getElem? (l := fa) (i := 130) rfl))
    mt_Pair_dirty_slots := He.meth_ok (c.fa _ (List.mem_of_getElem? (l := fa) (i := 131) rfl))
    mt_Pair_chosen := He.meth_ok (c.fa _ (List.mem_of_getElem? (l := fa) (i := 132) rfl))
    mt_Pair_take := He.meth_ok (c.fa _ (List.mem_of_getElem? (l := fa) (i := 133) rfl))
    mt_Pair_clean_slot := He.meth_ok (c.fa _ (List.mem_of_getElem? (l := fa) (i := 134) rfl))
    mt_Pair_read := He.meth_ok (c.fa _ (List.mem_of_getElem? (l := fa) (i := 135) rfl))
    mt_Pair_write := He.meth_ok (c.fa _ (List.mem_of_getElem? (l := fa) (i := 136) rfl))
    mt_Pair_carry_out := He.meth_ok (c.fa _ (List.mem_of_getElem? (l := fa) (i := 137) rfl))
    mt_Pair_keep_bound := He.meth_ok (c.fa _ (List.mem_of_getElem? (l := fa) (i := 138) rfl))
    mt_Pair_cut := He.meth_ok (c.fa _ (List.mem_of_getElem? (l := fa) (i := 139) rfl))
    mt_Pair_restart := He.meth_ok (c.fa _ (List.mem_of_getElem? (l := fa) (i := 140) rfl))
    mt_Pair_learn := He.meth_ok (c.fa _ (List.mem_of_getElem? (l := fa) (i := 141) rfl))
    F_P_is_int := by
        obtain ⟨fd, F⟩ := c.fn d_P_is_int (List.mem_of_getElem? (l := fn) (i := 0) rfl)
        have F2 : FunD K "is_int" "is_int" (defArgs s_P_is_int) (defBody s_P_is_int) (defScope s_P_is_int) [] [] (He.ga K "is_int") fd := F
        rw [funD_fd F2]
        exact F2
    F_P_is_int_in := by
        obtain ⟨fd, F⟩ := c.fn d_P_is_int_in (List.mem_of_getElem? (l := fn) (i := 1) rfl)
        have F2 : FunD K "is_int_in" "is_int_in" (defArgs s_P_is_int_in) (defBody s_P_is_int_in) (defScope s_P_is_int_in) [] [] (He.ga K "is_int_in") fd := F
        rw [funD_fd F2]
        exact F2
    F_P_are_ascending := by
        obtain ⟨fd, F⟩ := c.fn d_P_are_ascending (List.mem_of_getElem? (l := fn) (i := 2) rfl)
        have F2 : FunD K "are_ascending" "are_ascending" (defArgs s_P_are_ascending) (defBody s_P_are_ascending) (defScope s_P_are_ascending) [] [] (He.ga K "are_ascending") fd := F
        rw [funD_fd F2]
        exact F2
    F_D_init := by
        obtain ⟨fd, F⟩ := c.fn d_D_init (List.mem_of_getElem? (l := fn) (i := 3) rfl)
        have F2 : FunD K "__init__" "Disk.__init__" (defArgs s_D_init) (defBody s_D_init) (defScope s_D_init) [] [(("content" : PySem.Str), V.int 0)] (He.ma K (He.ga K "Disk") "__init__") fd := F
        rw [funD_fd F2]
        exact F2
    F_D_check := by
        obtain ⟨fd, F⟩ := c.fn d_D_check (List.mem_of_getElem? (l := fn) (i := 4) rfl)
        have F2 : FunD K "check" "Disk.check" (defArgs s_D_check) (defBody s_D_check) (defScope s_D_check) [] [] (He.ma K (He.ga K "Disk") "check") fd := F
        rw [funD_fd F2]
        exact F2
    F_D_read := by
        obtain ⟨fd, F⟩ := c.fn d_D_read (List.mem_of_getElem? (l := fn) (i := 5) rfl)
        have F2 : FunD K "read" "Disk.read" (defArgs s_D_read) (defBody s_D_read) (defScope s_D_read) [] [] (He.ma K (He.ga K "Disk") "read") fd := F
        rw [funD_fd F2]
        exact F2
    F_D_write := by
        obtain ⟨fd, F⟩ := c.fn d_D_write (List.mem_of_getElem? (l := fn) (i := 6) rfl)
        have F2 : FunD K "write" "Disk.write" (defArgs s_D_write) (defBody s_D_write) (defScope s_D_write) [] [] (He.ma K (He.ga K "Disk") "write") fd := F
        rw [funD_fd F2]
        exact F2
    F_D_sync := by
        obtain ⟨fd, F⟩ := c.fn d_D_sync (List.mem_of_getElem? (l := fn) (i := 7) rfl)
        have F2 : FunD K "sync" "Disk.sync" (defArgs s_D_sync) (defBody s_D_sync) (defScope s_D_sync) [] [] (He.ma K (He.ga K "Disk") "sync") fd := F
        rw [funD_fd F2]
        exact F2
    F_D_after_failure := by
        obtain ⟨fd, F⟩ := c.fn d_D_after_failure (List.mem_of_getElem? (l := fn) (i := 8) rfl)
        have F2 : FunD K "after_failure" "Disk.after_failure" (defArgs s_D_after_failure) (defBody s_D_after_failure) (defScope s_D_after_failure) [] [] (He.ma K (He.ga K "Disk") "after_failure") fd := F
        rw [funD_fd F2]
        exact F2
    F_D_fail := by
        obtain ⟨fd, F⟩ := c.fn d_D_fail (List.mem_of_getElem? (l := fn) (i := 9) rfl)
        have F2 : FunD K "fail" "Disk.fail" (defArgs s_D_fail) (defBody s_D_fail) (defScope s_D_fail) [] [] (He.ma K (He.ga K "Disk") "fail") fd := F
        rw [funD_fd F2]
        exact F2
    F_D_pending := by
        obtain ⟨fd, F⟩ := c.fn d_D_pending (List.mem_of_getElem? (l := fn) (i := 10) rfl)
        have F2 : FunD K "pending" "Disk.pending" (defArgs s_D_pending) (defBody s_D_pending) (defScope s_D_pending) [] [] (gf K (He.ma K (He.ga K "Disk") "pending")) fd := F
        rw [funD_fd F2]
        exact F2
    F_Rr_init := by
        obtain ⟨fd, F⟩ := c.fn d_Rr_init (List.mem_of_getElem? (l := fn) (i := 11) rfl)
        have F2 : FunD K "__init__" "Rules.__init__" (defArgs s_Rr_init) (defBody s_Rr_init) (defScope s_Rr_init) [] [] (He.ma K (He.ga K "Rules") "__init__") fd := F
        rw [funD_fd F2]
        exact F2
    F_Rr_writing := by
        obtain ⟨fd, F⟩ := c.fn d_Rr_writing (List.mem_of_getElem? (l := fn) (i := 12) rfl)
        have F2 : FunD K "writing" "Rules.writing" (defArgs s_Rr_writing) (defBody s_Rr_writing) (defScope s_Rr_writing) [] [] (gf K (He.ma K (He.ga K "Rules") "writing")) fd := F
        rw [funD_fd F2]
        exact F2
    F_Rr_reading := by
        obtain ⟨fd, F⟩ := c.fn d_Rr_reading (List.mem_of_getElem? (l := fn) (i := 13) rfl)
        have F2 : FunD K "reading" "Rules.reading" (defArgs s_Rr_reading) (defBody s_Rr_reading) (defScope s_Rr_reading) [] [] (gf K (He.ma K (He.ga K "Rules") "reading")) fd := F
        rw [funD_fd F2]
        exact F2
    F_Rr_choice := by
        obtain ⟨fd, F⟩ := c.fn d_Rr_choice (List.mem_of_getElem? (l := fn) (i := 14) rfl)
        have F2 : FunD K "choice" "Rules.choice" (defArgs s_Rr_choice) (defBody s_Rr_choice) (defScope s_Rr_choice) [] [] (gf K (He.ma K (He.ga K "Rules") "choice")) fd := F
        rw [funD_fd F2]
        exact F2
    F_Rr_bound := by
        obtain ⟨fd, F⟩ := c.fn d_Rr_bound (List.mem_of_getElem? (l := fn) (i := 15) rfl)
        have F2 : FunD K "bound" "Rules.bound" (defArgs s_Rr_bound) (defBody s_Rr_bound) (defScope s_Rr_bound) [] [] (gf K (He.ma K (He.ga K "Rules") "bound")) fd := F
        rw [funD_fd F2]
        exact F2
    F_P_check_recipe := by
        obtain ⟨fd, F⟩ := c.fn d_P_check_recipe (List.mem_of_getElem? (l := fn) (i := 16) rfl)
        have F2 : FunD K "check_recipe" "check_recipe" (defArgs s_P_check_recipe) (defBody s_P_check_recipe) (defScope s_P_check_recipe) [] [] (He.ga K "check_recipe") fd := F
        rw [funD_fd F2]
        exact F2
    F_Rc_init := by
        obtain ⟨fd, F⟩ := c.fn d_Rc_init (List.mem_of_getElem? (l := fn) (i := 17) rfl)
        have F2 : FunD K "__init__" "Recipes.__init__" (defArgs s_Rc_init) (defBody s_Rc_init) (defScope s_Rc_init) [] [] (He.ma K (He.ga K "Recipes") "__init__") fd := F
        rw [funD_fd F2]
        exact F2
    F_Rc_clean := by
        obtain ⟨fd, F⟩ := c.fn d_Rc_clean (List.mem_of_getElem? (l := fn) (i := 18) rfl)
        have F2 : FunD K "clean" "Recipes.clean" (defArgs s_Rc_clean) (defBody s_Rc_clean) (defScope s_Rc_clean) [] [] (gf K (He.ma K (He.ga K "Recipes") "clean")) fd := F
        rw [funD_fd F2]
        exact F2
    F_P_recipe_of := by
        obtain ⟨fd, F⟩ := c.fn d_P_recipe_of (List.mem_of_getElem? (l := fn) (i := 19) rfl)
        have F2 : FunD K "recipe_of" "recipe_of" (defArgs s_P_recipe_of) (defBody s_P_recipe_of) (defScope s_P_recipe_of) [] [] (He.ga K "recipe_of") fd := F
        rw [funD_fd F2]
        exact F2
    F_P_check_sizes := by
        obtain ⟨fd, F⟩ := c.fn d_P_check_sizes (List.mem_of_getElem? (l := fn) (i := 20) rfl)
        have F2 : FunD K "check_sizes" "check_sizes" (defArgs s_P_check_sizes) (defBody s_P_check_sizes) (defScope s_P_check_sizes) [.int 16, .int 8] [] (He.ga K "check_sizes") fd := F
        rw [funD_fd F2]
        exact F2
    F_P_best_dirty := by
        obtain ⟨fd, F⟩ := c.fn d_P_best_dirty (List.mem_of_getElem? (l := fn) (i := 21) rfl)
        have F2 : FunD K "best_dirty" "best_dirty" (defArgs s_P_best_dirty) (defBody s_P_best_dirty) (defScope s_P_best_dirty) [] [] (He.ga K "best_dirty") fd := F
        rw [funD_fd F2]
        exact F2
    F_P_init := by
        obtain ⟨fd, F⟩ := c.fn d_P_init (List.mem_of_getElem? (l := fn) (i := 22) rfl)
        have F2 : FunD K "__init__" "Pair.__init__" (defArgs s_P_init) (defBody s_P_init) (defScope s_P_init) [] [(("recipes" : PySem.Str), V.non)] (He.ma K (He.ga K "Pair") "__init__") fd := F
        rw [funD_fd F2]
        exact F2
    F_P_need_on := by
        obtain ⟨fd, F⟩ := c.fn d_P_need_on (List.mem_of_getElem? (l := fn) (i := 23) rfl)
        have F2 : FunD K "need_on" "Pair.need_on" (defArgs s_P_need_on) (defBody s_P_need_on) (defScope s_P_need_on) [] [] (He.ma K (He.ga K "Pair") "need_on") fd := F
        rw [funD_fd F2]
        exact F2
    F_P_check_block := by
        obtain ⟨fd, F⟩ := c.fn d_P_check_block (List.mem_of_getElem? (l := fn) (i := 24) rfl)
        have F2 : FunD K "check_block" "Pair.check_block" (defArgs s_P_check_block) (defBody s_P_check_block) (defScope s_P_check_block) [] [] (He.ma K (He.ga K "Pair") "check_block") fd := F
        rw [funD_fd F2]
        exact F2
    F_P_turn_off := by
        obtain ⟨fd, F⟩ := c.fn d_P_turn_off (List.mem_of_getElem? (l := fn) (i := 25) rfl)
        have F2 : FunD K "turn_off" "Pair.turn_off" (defArgs s_P_turn_off) (defBody s_P_turn_off) (defScope s_P_turn_off) [] [] (He.ma K (He.ga K "Pair") "turn_off") fd := F
        rw [funD_fd F2]
        exact F2
    F_P_step := by
        obtain ⟨fd, F⟩ := c.fn d_P_step (List.mem_of_getElem? (l := fn) (i := 26) rfl)
        have F2 : FunD K "step" "Pair.step" (defArgs s_P_step) (defBody s_P_step) (defScope s_P_step) [] [] (He.ma K (He.ga K "Pair") "step") fd := F
        rw [funD_fd F2]
        exact F2
    F_P_write_slow := by
        obtain ⟨fd, F⟩ := c.fn d_P_write_slow (List.mem_of_getElem? (l := fn) (i := 27) rfl)
        have F2 : FunD K "write_slow" "Pair.write_slow" (defArgs s_P_write_slow) (defBody s_P_write_slow) (defScope s_P_write_slow) [] [] (He.ma K (He.ga K "Pair") "write_slow") fd := F
        rw [funD_fd F2]
        exact F2
    F_P_sync_slow := by
        obtain ⟨fd, F⟩ := c.fn d_P_sync_slow (List.mem_of_getElem? (l := fn) (i := 28) rfl)
        have F2 : FunD K "sync_slow" "Pair.sync_slow" (defArgs s_P_sync_slow) (defBody s_P_sync_slow) (defScope s_P_sync_slow) [] [] (He.ma K (He.ga K "Pair") "sync_slow") fd := F
        rw [funD_fd F2]
        exact F2
    F_P_write_fast := by
        obtain ⟨fd, F⟩ := c.fn d_P_write_fast (List.mem_of_getElem? (l := fn) (i := 29) rfl)
        have F2 : FunD K "write_fast" "Pair.write_fast" (defArgs s_P_write_fast) (defBody s_P_write_fast) (defScope s_P_write_fast) [] [] (He.ma K (He.ga K "Pair") "write_fast") fd := F
        rw [funD_fd F2]
        exact F2
    F_P_sync_fast := by
        obtain ⟨fd, F⟩ := c.fn d_P_sync_fast (List.mem_of_getElem? (l := fn) (i := 30) rfl)
        have F2 : FunD K "sync_fast" "Pair.sync_fast" (defArgs s_P_sync_fast) (defBody s_P_sync_fast) (defScope s_P_sync_fast) [] [] (He.ma K (He.ga K "Pair") "sync_fast") fd := F
        rw [funD_fd F2]
        exact F2
    F_P_slot_of := by
        obtain ⟨fd, F⟩ := c.fn d_P_slot_of (List.mem_of_getElem? (l := fn) (i := 31) rfl)
        have F2 : FunD K "slot_of" "Pair.slot_of" (defArgs s_P_slot_of) (defBody s_P_slot_of) (defScope s_P_slot_of) [] [] (He.ma K (He.ga K "Pair") "slot_of") fd := F
        rw [funD_fd F2]
        exact F2
    F_P_begin := by
        obtain ⟨fd, F⟩ := c.fn d_P_begin (List.mem_of_getElem? (l := fn) (i := 32) rfl)
        have F2 : FunD K "begin" "Pair.begin" (defArgs s_P_begin) (defBody s_P_begin) (defScope s_P_begin) [] [] (He.ma K (He.ga K "Pair") "begin") fd := F
        rw [funD_fd F2]
        exact F2
    F_P_put := by
        obtain ⟨fd, F⟩ := c.fn d_P_put (List.mem_of_getElem? (l := fn) (i := 33) rfl)
        have F2 : FunD K "put" "Pair.put" (defArgs s_P_put) (defBody s_P_put) (defScope s_P_put) [] [] (He.ma K (He.ga K "Pair") "put") fd := F
        rw [funD_fd F2]
        exact F2
    F_P_dirty_slots := by
        obtain ⟨fd, F⟩ := c.fn d_P_dirty_slots (List.mem_of_getElem? (l := fn) (i := 34) rfl)
        have F2 : FunD K "dirty_slots" "Pair.dirty_slots" (defArgs s_P_dirty_slots) (defBody s_P_dirty_slots) (defScope s_P_dirty_slots) [] [] (He.ma K (He.ga K "Pair") "dirty_slots") fd := F
        rw [funD_fd F2]
        exact F2
    F_P_chosen := by
        obtain ⟨fd, F⟩ := c.fn d_P_chosen (List.mem_of_getElem? (l := fn) (i := 35) rfl)
        have F2 : FunD K "chosen" "Pair.chosen" (defArgs s_P_chosen) (defBody s_P_chosen) (defScope s_P_chosen) [] [] (He.ma K (He.ga K "Pair") "chosen") fd := F
        rw [funD_fd F2]
        exact F2
    F_P_take := by
        obtain ⟨fd, F⟩ := c.fn d_P_take (List.mem_of_getElem? (l := fn) (i := 36) rfl)
        have F2 : FunD K "take" "Pair.take" (defArgs s_P_take) (defBody s_P_take) (defScope s_P_take) [] [] (He.ma K (He.ga K "Pair") "take") fd := F
        rw [funD_fd F2]
        exact F2
    F_P_clean_slot := by
        obtain ⟨fd, F⟩ := c.fn d_P_clean_slot (List.mem_of_getElem? (l := fn) (i := 37) rfl)
        have F2 : FunD K "clean_slot" "Pair.clean_slot" (defArgs s_P_clean_slot) (defBody s_P_clean_slot) (defScope s_P_clean_slot) [] [] (He.ma K (He.ga K "Pair") "clean_slot") fd := F
        rw [funD_fd F2]
        exact F2
    F_P_read := by
        obtain ⟨fd, F⟩ := c.fn d_P_read (List.mem_of_getElem? (l := fn) (i := 38) rfl)
        have F2 : FunD K "read" "Pair.read" (defArgs s_P_read) (defBody s_P_read) (defScope s_P_read) [] [] (He.ma K (He.ga K "Pair") "read") fd := F
        rw [funD_fd F2]
        exact F2
    F_P_write := by
        obtain ⟨fd, F⟩ := c.fn d_P_write (List.mem_of_getElem? (l := fn) (i := 39) rfl)
        have F2 : FunD K "write" "Pair.write" (defArgs s_P_write) (defBody s_P_write) (defScope s_P_write) [] [] (He.ma K (He.ga K "Pair") "write") fd := F
        rw [funD_fd F2]
        exact F2
    F_P_carry_out := by
        obtain ⟨fd, F⟩ := c.fn d_P_carry_out (List.mem_of_getElem? (l := fn) (i := 40) rfl)
        have F2 : FunD K "carry_out" "Pair.carry_out" (defArgs s_P_carry_out) (defBody s_P_carry_out) (defScope s_P_carry_out) [] [] (He.ma K (He.ga K "Pair") "carry_out") fd := F
        rw [funD_fd F2]
        exact F2
    F_P_keep_bound := by
        obtain ⟨fd, F⟩ := c.fn d_P_keep_bound (List.mem_of_getElem? (l := fn) (i := 41) rfl)
        have F2 : FunD K "keep_bound" "Pair.keep_bound" (defArgs s_P_keep_bound) (defBody s_P_keep_bound) (defScope s_P_keep_bound) [] [] (He.ma K (He.ga K "Pair") "keep_bound") fd := F
        rw [funD_fd F2]
        exact F2
    F_P_cut := by
        obtain ⟨fd, F⟩ := c.fn d_P_cut (List.mem_of_getElem? (l := fn) (i := 42) rfl)
        have F2 : FunD K "cut" "Pair.cut" (defArgs s_P_cut) (defBody s_P_cut) (defScope s_P_cut) [] [] (He.ma K (He.ga K "Pair") "cut") fd := F
        rw [funD_fd F2]
        exact F2
    F_P_restart := by
        obtain ⟨fd, F⟩ := c.fn d_P_restart (List.mem_of_getElem? (l := fn) (i := 43) rfl)
        have F2 : FunD K "restart" "Pair.restart" (defArgs s_P_restart) (defBody s_P_restart) (defScope s_P_restart) [] [] (He.ma K (He.ga K "Pair") "restart") fd := F
        rw [funD_fd F2]
        exact F2
    F_P_learn := by
        obtain ⟨fd, F⟩ := c.fn d_P_learn (List.mem_of_getElem? (l := fn) (i := 44) rfl)
        have F2 : FunD K "learn" "Pair.learn" (defArgs s_P_learn) (defBody s_P_learn) (defScope s_P_learn) [] [] (He.ma K (He.ga K "Pair") "learn") fd := F
        rw [funD_fd F2]
        exact F2
    F_P_block_values := by
        obtain ⟨fd, F⟩ := c.fn d_P_block_values (List.mem_of_getElem? (l := fn) (i := 45) rfl)
        have F2 : FunD K "block_values" "Pair.block_values" (defArgs s_P_block_values) (defBody s_P_block_values) (defScope s_P_block_values) [] [] (gf K (He.ma K (He.ga K "Pair") "block_values")) fd := F
        rw [funD_fd F2]
        exact F2
    F_P_known := by
        obtain ⟨fd, F⟩ := c.fn d_P_known (List.mem_of_getElem? (l := fn) (i := 46) rfl)
        have F2 : FunD K "known" "Pair.known" (defArgs s_P_known) (defBody s_P_known) (defScope s_P_known) [] [] (gf K (He.ma K (He.ga K "Pair") "known")) fd := F
        rw [funD_fd F2]
        exact F2
    F_P_dirty := by
        obtain ⟨fd, F⟩ := c.fn d_P_dirty (List.mem_of_getElem? (l := fn) (i := 47) rfl)
        have F2 : FunD K "dirty" "Pair.dirty" (defArgs s_P_dirty) (defBody s_P_dirty) (defScope s_P_dirty) [] [] (gf K (He.ma K (He.ga K "Pair") "dirty")) fd := F
        rw [funD_fd F2]
        exact F2
    F_P_hits := by
        obtain ⟨fd, F⟩ := c.fn d_P_hits (List.mem_of_getElem? (l := fn) (i := 48) rfl)
        have F2 : FunD K "hits" "Pair.hits" (defArgs s_P_hits) (defBody s_P_hits) (defScope s_P_hits) [] [] (gf K (He.ma K (He.ga K "Pair") "hits")) fd := F
        rw [funD_fd F2]
        exact F2
    F_P_requests := by
        obtain ⟨fd, F⟩ := c.fn d_P_requests (List.mem_of_getElem? (l := fn) (i := 49) rfl)
        have F2 : FunD K "requests" "Pair.requests" (defArgs s_P_requests) (defBody s_P_requests) (defScope s_P_requests) [] [] (gf K (He.ma K (He.ga K "Pair") "requests")) fd := F
        rw [funD_fd F2]
        exact F2
    F_P_counts := by
        obtain ⟨fd, F⟩ := c.fn d_P_counts (List.mem_of_getElem? (l := fn) (i := 50) rfl)
        have F2 : FunD K "counts" "Pair.counts" (defArgs s_P_counts) (defBody s_P_counts) (defScope s_P_counts) [] [] (gf K (He.ma K (He.ga K "Pair") "counts")) fd := F
        rw [funD_fd F2]
        exact F2
    F_P_pending := by
        obtain ⟨fd, F⟩ := c.fn d_P_pending (List.mem_of_getElem? (l := fn) (i := 51) rfl)
        have F2 : FunD K "pending" "Pair.pending" (defArgs s_P_pending) (defBody s_P_pending) (defScope s_P_pending) [] [] (gf K (He.ma K (He.ga K "Pair") "pending")) fd := F
        rw [funD_fd F2]
        exact F2
    F_P_is_on := by
        obtain ⟨fd, F⟩ := c.fn d_P_is_on (List.mem_of_getElem? (l := fn) (i := 52) rfl)
        have F2 : FunD K "is_on" "Pair.is_on" (defArgs s_P_is_on) (defBody s_P_is_on) (defScope s_P_is_on) [] [] (gf K (He.ma K (He.ga K "Pair") "is_on")) fd := F
        rw [funD_fd F2]
        exact F2
    F_L_random := by
        obtain ⟨fd, F⟩ := c.fn d_L_random (List.mem_of_getElem? (l := fn) (i := 53) rfl)
        have F2 : FunD K "_law_random" "_law_random" (defArgs s_L_random) (defBody s_L_random) (defScope s_L_random) [] [] (He.ga K "_law_random") fd := F
        rw [funD_fd F2]
        exact F2
    F_L_safe := by
        obtain ⟨fd, F⟩ := c.fn d_L_safe (List.mem_of_getElem? (l := fn) (i := 54) rfl)
        have F2 : FunD K "_law_safe" "_law_safe" (defArgs s_L_safe) (defBody s_L_safe) (defScope s_L_safe) [] [] (He.ga K "_law_safe") fd := F
        rw [funD_fd F2]
        exact F2
    F_L_below := by
        obtain ⟨fd, F⟩ := c.fn d_L_below (List.mem_of_getElem? (l := fn) (i := 55) rfl)
        have F2 : FunD K "_law_below" "_law_below" (defArgs s_L_below) (defBody s_L_below) (defScope s_L_below) [] [] (He.ga K "_law_below") fd := F
        rw [funD_fd F2]
        exact F2
    F_L_shuffled := by
        obtain ⟨fd, F⟩ := c.fn d_L_shuffled (List.mem_of_getElem? (l := fn) (i := 56) rfl)
        have F2 : FunD K "_law_shuffled" "_law_shuffled" (defArgs s_L_shuffled) (defBody s_L_shuffled) (defScope s_L_shuffled) [] [] (He.ga K "_law_shuffled") fd := F
        rw [funD_fd F2]
        exact F2
    F_L_recipe := by
        obtain ⟨fd, F⟩ := c.fn d_L_recipe (List.mem_of_getElem? (l := fn) (i := 57) rfl)
        have F2 : FunD K "_law_recipe" "_law_recipe" (defArgs s_L_recipe) (defBody s_L_recipe) (defScope s_L_recipe) [] [] (He.ga K "_law_recipe") fd := F
        rw [funD_fd F2]
        exact F2
    F_L_recipes := by
        obtain ⟨fd, F⟩ := c.fn d_L_recipes (List.mem_of_getElem? (l := fn) (i := 58) rfl)
        have F2 : FunD K "_law_recipes" "_law_recipes" (defArgs s_L_recipes) (defBody s_L_recipes) (defScope s_L_recipes) [] [] (He.ga K "_law_recipes") fd := F
        rw [funD_fd F2]
        exact F2
    F_L_rules := by
        obtain ⟨fd, F⟩ := c.fn d_L_rules (List.mem_of_getElem? (l := fn) (i := 59) rfl)
        have F2 : FunD K "_law_rules" "_law_rules" (defArgs s_L_rules) (defBody s_L_rules) (defScope s_L_rules) [] [] (He.ga K "_law_rules") fd := F
        rw [funD_fd F2]
        exact F2
    F_L_pair := by
        obtain ⟨fd, F⟩ := c.fn d_L_pair (List.mem_of_getElem? (l := fn) (i := 60) rfl)
        have F2 : FunD K "_law_pair" "_law_pair" (defArgs s_L_pair) (defBody s_L_pair) (defScope s_L_pair) [] [] (He.ga K "_law_pair") fd := F
        rw [funD_fd F2]
        exact F2
    F_L_disk := by
        obtain ⟨fd, F⟩ := c.fn d_L_disk (List.mem_of_getElem? (l := fn) (i := 61) rfl)
        have F2 : FunD K "_law_disk" "_law_disk" (defArgs s_L_disk) (defBody s_L_disk) (defScope s_L_disk) [] [] (He.ga K "_law_disk") fd := F
        rw [funD_fd F2]
        exact F2
    F_L_new := by
        obtain ⟨fd, F⟩ := c.fn d_L_new (List.mem_of_getElem? (l := fn) (i := 62) rfl)
        have F2 : FunD K "_law_new" "_law_new" (defArgs s_L_new) (defBody s_L_new) (defScope s_L_new) [] [] (He.ga K "_law_new") fd := F
        rw [funD_fd F2]
        exact F2
    F_L_both := by
        obtain ⟨fd, F⟩ := c.fn d_L_both (List.mem_of_getElem? (l := fn) (i := 63) rfl)
        have F2 : FunD K "_law_both" "_law_both" (defArgs s_L_both) (defBody s_L_both) (defScope s_L_both) [] [] (He.ga K "_law_both") fd := F
        rw [funD_fd F2]
        exact F2
    F_L_slot := by
        obtain ⟨fd, F⟩ := c.fn d_L_slot (List.mem_of_getElem? (l := fn) (i := 64) rfl)
        have F2 : FunD K "_law_slot" "_law_slot" (defArgs s_L_slot) (defBody s_L_slot) (defScope s_L_slot) [] [] (He.ga K "_law_slot") fd := F
        rw [funD_fd F2]
        exact F2
    F_L_begin := by
        obtain ⟨fd, F⟩ := c.fn d_L_begin (List.mem_of_getElem? (l := fn) (i := 65) rfl)
        have F2 : FunD K "_law_begin" "_law_begin" (defArgs s_L_begin) (defBody s_L_begin) (defScope s_L_begin) [] [] (He.ga K "_law_begin") fd := F
        rw [funD_fd F2]
        exact F2
    F_L_oldest := by
        obtain ⟨fd, F⟩ := c.fn d_L_oldest (List.mem_of_getElem? (l := fn) (i := 66) rfl)
        have F2 : FunD K "_law_oldest" "_law_oldest" (defArgs s_L_oldest) (defBody s_L_oldest) (defScope s_L_oldest) [] [] (He.ga K "_law_oldest") fd := F
        rw [funD_fd F2]
        exact F2
    F_L_clean := by
        obtain ⟨fd, F⟩ := c.fn d_L_clean (List.mem_of_getElem? (l := fn) (i := 67) rfl)
        have F2 : FunD K "_law_clean" "_law_clean" (defArgs s_L_clean) (defBody s_L_clean) (defScope s_L_clean) [] [] (He.ga K "_law_clean") fd := F
        rw [funD_fd F2]
        exact F2
    F_L_take := by
        obtain ⟨fd, F⟩ := c.fn d_L_take (List.mem_of_getElem? (l := fn) (i := 68) rfl)
        have F2 : FunD K "_law_take" "_law_take" (defArgs s_L_take) (defBody s_L_take) (defScope s_L_take) [] [] (He.ga K "_law_take") fd := F
        rw [funD_fd F2]
        exact F2
    F_L_know := by
        obtain ⟨fd, F⟩ := c.fn d_L_know (List.mem_of_getElem? (l := fn) (i := 69) rfl)
        have F2 : FunD K "_law_know" "_law_know" (defArgs s_L_know) (defBody s_L_know) (defScope s_L_know) [] [] (He.ga K "_law_know") fd := F
        rw [funD_fd F2]
        exact F2
    F_L_read := by
        obtain ⟨fd, F⟩ := c.fn d_L_read (List.mem_of_getElem? (l := fn) (i := 70) rfl)
        have F2 : FunD K "_law_read" "_law_read" (defArgs s_L_read) (defBody s_L_read) (defScope s_L_read) [] [] (He.ga K "_law_read") fd := F
        rw [funD_fd F2]
        exact F2
    F_L_word := by
        obtain ⟨fd, F⟩ := c.fn d_L_word (List.mem_of_getElem? (l := fn) (i := 71) rfl)
        have F2 : FunD K "_law_word" "_law_word" (defArgs s_L_word) (defBody s_L_word) (defScope s_L_word) [] [] (He.ga K "_law_word") fd := F
        rw [funD_fd F2]
        exact F2
    F_L_write := by
        obtain ⟨fd, F⟩ := c.fn d_L_write (List.mem_of_getElem? (l := fn) (i := 72) rfl)
        have F2 : FunD K "_law_write" "_law_write" (defArgs s_L_write) (defBody s_L_write) (defScope s_L_write) [] [] (He.ga K "_law_write") fd := F
        rw [funD_fd F2]
        exact F2
    F_L_plan := by
        obtain ⟨fd, F⟩ := c.fn d_L_plan (List.mem_of_getElem? (l := fn) (i := 73) rfl)
        have F2 : FunD K "_law_plan" "_law_plan" (defArgs s_L_plan) (defBody s_L_plan) (defScope s_L_plan) [] [] (He.ga K "_law_plan") fd := F
        rw [funD_fd F2]
        exact F2
    F_L_sync := by
        obtain ⟨fd, F⟩ := c.fn d_L_sync (List.mem_of_getElem? (l := fn) (i := 74) rfl)
        have F2 : FunD K "_law_sync" "_law_sync" (defArgs s_L_sync) (defBody s_L_sync) (defScope s_L_sync) [] [] (He.ga K "_law_sync") fd := F
        rw [funD_fd F2]
        exact F2
    F_L_put := by
        obtain ⟨fd, F⟩ := c.fn d_L_put (List.mem_of_getElem? (l := fn) (i := 75) rfl)
        have F2 : FunD K "_law_put" "_law_put" (defArgs s_L_put) (defBody s_L_put) (defScope s_L_put) [] [] (He.ga K "_law_put") fd := F
        rw [funD_fd F2]
        exact F2
    F_L_go := by
        obtain ⟨fd, F⟩ := c.fn d_L_go (List.mem_of_getElem? (l := fn) (i := 76) rfl)
        have F2 : FunD K "_law_go" "_law_go" (defArgs s_L_go) (defBody s_L_go) (defScope s_L_go) [] [] (He.ga K "_law_go") fd := F
        rw [funD_fd F2]
        exact F2
    F_L_power_of := by
        obtain ⟨fd, F⟩ := c.fn d_L_power_of (List.mem_of_getElem? (l := fn) (i := 77) rfl)
        have F2 : FunD K "_law_power_of" "_law_power_of" (defArgs s_L_power_of) (defBody s_L_power_of) (defScope s_L_power_of) [] [] (He.ga K "_law_power_of") fd := F
        rw [funD_fd F2]
        exact F2
    F_L_do := by
        obtain ⟨fd, F⟩ := c.fn d_L_do (List.mem_of_getElem? (l := fn) (i := 78) rfl)
        have F2 : FunD K "_law_do" "_law_do" (defArgs s_L_do) (defBody s_L_do) (defScope s_L_do) [] [] (He.ga K "_law_do") fd := F
        rw [funD_fd F2]
        exact F2
    F_L_equal := by
        obtain ⟨fd, F⟩ := c.fn d_L_equal (List.mem_of_getElem? (l := fn) (i := 79) rfl)
        have F2 : FunD K "_law_equal" "_law_equal" (defArgs s_L_equal) (defBody s_L_equal) (defScope s_L_equal) [] [] (He.ga K "_law_equal") fd := F
        rw [funD_fd F2]
        exact F2
    F_L_same := by
        obtain ⟨fd, F⟩ := c.fn d_L_same (List.mem_of_getElem? (l := fn) (i := 80) rfl)
        have F2 : FunD K "_law_same" "_law_same" (defArgs s_L_same) (defBody s_L_same) (defScope s_L_same) [] [] (He.ga K "_law_same") fd := F
        rw [funD_fd F2]
        exact F2
    F_L_request := by
        obtain ⟨fd, F⟩ := c.fn d_L_request (List.mem_of_getElem? (l := fn) (i := 81) rfl)
        have F2 : FunD K "_law_request" "_law_request" (defArgs s_L_request) (defBody s_L_request) (defScope s_L_request) [] [] (He.ga K "_law_request") fd := F
        rw [funD_fd F2]
        exact F2
    F_L_fail := by
        obtain ⟨fd, F⟩ := c.fn d_L_fail (List.mem_of_getElem? (l := fn) (i := 82) rfl)
        have F2 : FunD K "_law_fail" "_law_fail" (defArgs s_L_fail) (defBody s_L_fail) (defScope s_L_fail) [] [] (He.ga K "_law_fail") fd := F
        rw [funD_fd F2]
        exact F2
    F_L_best := by
        obtain ⟨fd, F⟩ := c.fn d_L_best (List.mem_of_getElem? (l := fn) (i := 83) rfl)
        have F2 : FunD K "_law_best" "_law_best" (defArgs s_L_best) (defBody s_L_best) (defScope s_L_best) [] [] (He.ga K "_law_best") fd := F
        rw [funD_fd F2]
        exact F2
    F_L_restart := by
        obtain ⟨fd, F⟩ := c.fn d_L_restart (List.mem_of_getElem? (l := fn) (i := 84) rfl)
        have F2 : FunD K "_law_restart" "_law_restart" (defArgs s_L_restart) (defBody s_L_restart) (defScope s_L_restart) [] [] (He.ga K "_law_restart") fd := F
        rw [funD_fd F2]
        exact F2
    F_L_counts := by
        obtain ⟨fd, F⟩ := c.fn d_L_counts (List.mem_of_getElem? (l := fn) (i := 85) rfl)
        have F2 : FunD K "_law_counts" "_law_counts" (defArgs s_L_counts) (defBody s_L_counts) (defScope s_L_counts) [] [] (He.ga K "_law_counts") fd := F
        rw [funD_fd F2]
        exact F2
    F_L_values := by
        obtain ⟨fd, F⟩ := c.fn d_L_values (List.mem_of_getElem? (l := fn) (i := 86) rfl)
        have F2 : FunD K "_law_values" "_law_values" (defArgs s_L_values) (defBody s_L_values) (defScope s_L_values) [] [] (He.ga K "_law_values") fd := F
        rw [funD_fd F2]
        exact F2
    F_L_shown := by
        obtain ⟨fd, F⟩ := c.fn d_L_shown (List.mem_of_getElem? (l := fn) (i := 87) rfl)
        have F2 : FunD K "_law_shown" "_law_shown" (defArgs s_L_shown) (defBody s_L_shown) (defScope s_L_shown) [] [] (He.ga K "_law_shown") fd := F
        rw [funD_fd F2]
        exact F2
    F_L_stands := by
        obtain ⟨fd, F⟩ := c.fn d_L_stands (List.mem_of_getElem? (l := fn) (i := 88) rfl)
        have F2 : FunD K "_law_stands" "_law_stands" (defArgs s_L_stands) (defBody s_L_stands) (defScope s_L_stands) [] [] (He.ga K "_law_stands") fd := F
        rw [funD_fd F2]
        exact F2
    F_L_main := by
        obtain ⟨fd, F⟩ := c.fn d_L_main (List.mem_of_getElem? (l := fn) (i := 89) rfl)
        have F2 : FunD K "law" "law" (defArgs s_L_main) (defBody s_L_main) (defScope s_L_main) [] [] (He.ga K "law") fd := F
        rw [funD_fd F2]
        exact F2
    pr_Disk_pending := propB_ok (List.all_eq_true.mp hp _ (List.mem_of_getElem? (l := props) (i := 0) rfl))
    pr_Rules_writing := propB_ok (List.all_eq_true.mp hp _ (List.mem_of_getElem? (l := props) (i := 1) rfl))
    pr_Rules_reading := propB_ok (List.all_eq_true.mp hp _ (List.mem_of_getElem? (l := props) (i := 2) rfl))
    pr_Rules_choice := propB_ok (List.all_eq_true.mp hp _ (List.mem_of_getElem? (l := props) (i := 3) rfl))
    pr_Rules_bound := propB_ok (List.all_eq_true.mp hp _ (List.mem_of_getElem? (l := props) (i := 4) rfl))
    pr_Recipes_clean := propB_ok (List.all_eq_true.mp hp _ (List.mem_of_getElem? (l := props) (i := 5) rfl))
    pr_Pair_block_values := propB_ok (List.all_eq_true.mp hp _ (List.mem_of_getElem? (l := props) (i := 6) rfl))
    pr_Pair_known := propB_ok (List.all_eq_true.mp hp _ (List.mem_of_getElem? (l := props) (i := 7) rfl))
    pr_Pair_dirty := propB_ok (List.all_eq_true.mp hp _ (List.mem_of_getElem? (l := props) (i := 8) rfl))
    pr_Pair_hits := propB_ok (List.all_eq_true.mp hp _ (List.mem_of_getElem? (l := props) (i := 9) rfl))
    pr_Pair_requests := propB_ok (List.all_eq_true.mp hp _ (List.mem_of_getElem? (l := props) (i := 10) rfl))
    pr_Pair_counts := propB_ok (List.all_eq_true.mp hp _ (List.mem_of_getElem? (l := props) (i := 11) rfl))
    pr_Pair_pending := propB_ok (List.all_eq_true.mp hp _ (List.mem_of_getElem? (l := props) (i := 12) rfl))
    pr_Pair_is_on := propB_ok (List.all_eq_true.mp hp _ (List.mem_of_getElem? (l := props) (i := 13) rfl))
    t_WORDS := tupA_ok (List.all_eq_true.mp ht (He.ga K "WORDS", [.ref (itA K "WORDS" 0), .ref (itA K "WORDS" 1), .ref (itA K "WORDS" 2)]) (List.mem_of_getElem? (l := tups K) (i := 0) rfl))
    t_WORDS0 := tupA_ok (List.all_eq_true.mp ht (itA K "WORDS" 0, [.str "through", .str "back", .str "around"]) (List.mem_of_getElem? (l := tups K) (i := 1) rfl))
    t_WORDS1 := tupA_ok (List.all_eq_true.mp ht (itA K "WORDS" 1, [.str "keep", .str "pass"]) (List.mem_of_getElem? (l := tups K) (i := 2) rfl))
    t_WORDS2 := tupA_ok (List.all_eq_true.mp ht (itA K "WORDS" 2, [.str "used", .str "came", .str "rare"]) (List.mem_of_getElem? (l := tups K) (i := 3) rfl))
    t_KINDS := tupA_ok (List.all_eq_true.mp ht (He.ga K "KINDS", [.str "through", .str "back", .str "around", .str "clean"]) (List.mem_of_getElem? (l := tups K) (i := 4) rfl))
    y_KINDS := (tupA_all (List.all_eq_true.mp ht (He.ga K "KINDS", [.str "through", .str "back", .str "around", .str "clean"]) (List.mem_of_getElem? (l := tups K) (i := 4) rfl))).1
    t_SYNCS := tupA_ok (List.all_eq_true.mp ht (He.ga K "SYNCS", [.str "sync slow", .str "sync fast"]) (List.mem_of_getElem? (l := tups K) (i := 5) rfl))
    t_WRITE_STEPS := tupA_ok (List.all_eq_true.mp ht (He.ga K "WRITE_STEPS", [.str "slow", .str "sync slow", .str "fast", .str "sync fast", .str "free", .str "done"]) (List.mem_of_getElem? (l := tups K) (i := 6) rfl))
    t_CLEAN_STEPS := tupA_ok (List.all_eq_true.mp ht (He.ga K "CLEAN_STEPS", [.str "slow", .str "sync slow", .str "mark", .str "sync fast"]) (List.mem_of_getElem? (l := tups K) (i := 7) rfl))
    t_STEPS := tupA_ok (List.all_eq_true.mp ht (He.ga K "STEPS", [.ref (He.ga K "WRITE_STEPS"), .ref (He.ga K "WRITE_STEPS"), .ref (He.ga K "WRITE_STEPS"), .ref (He.ga K "CLEAN_STEPS")]) (List.mem_of_getElem? (l := tups K) (i := 8) rfl))
    ga_WORDS := PySem.W.mg_of X G (He.eqO_ok (List.all_eq_true.mp hg _ (List.mem_of_getElem? (l := ["WORDS", "KINDS", "SYNCS", "WRITE_STEPS", "CLEAN_STEPS", "STEPS", "law"]) (i := 0) rfl)))
    ga_KINDS := PySem.W.mg_of X G (He.eqO_ok (List.all_eq_true.mp hg _ (List.mem_of_getElem? (l := ["WORDS", "KINDS", "SYNCS", "WRITE_STEPS", "CLEAN_STEPS", "STEPS", "law"]) (i := 1) rfl)))
    ga_SYNCS := PySem.W.mg_of X G (He.eqO_ok (List.all_eq_true.mp hg _ (List.mem_of_getElem? (l := ["WORDS", "KINDS", "SYNCS", "WRITE_STEPS", "CLEAN_STEPS", "STEPS", "law"]) (i := 2) rfl)))
    ga_WRITE_STEPS := PySem.W.mg_of X G (He.eqO_ok (List.all_eq_true.mp hg _ (List.mem_of_getElem? (l := ["WORDS", "KINDS", "SYNCS", "WRITE_STEPS", "CLEAN_STEPS", "STEPS", "law"]) (i := 3) rfl)))
    ga_CLEAN_STEPS := PySem.W.mg_of X G (He.eqO_ok (List.all_eq_true.mp hg _ (List.mem_of_getElem? (l := ["WORDS", "KINDS", "SYNCS", "WRITE_STEPS", "CLEAN_STEPS", "STEPS", "law"]) (i := 4) rfl)))
    ga_STEPS := PySem.W.mg_of X G (He.eqO_ok (List.all_eq_true.mp hg _ (List.mem_of_getElem? (l := ["WORDS", "KINDS", "SYNCS", "WRITE_STEPS", "CLEAN_STEPS", "STEPS", "law"]) (i := 5) rfl)))
    ga_law := PySem.W.mg_of X G (He.eqO_ok (List.all_eq_true.mp hg _ (List.mem_of_getElem? (l := ["WORDS", "KINDS", "SYNCS", "WRITE_STEPS", "CLEAN_STEPS", "STEPS", "law"]) (i := 6) rfl)))
  }
end Kb
set_option Elab.async false
set_option linter.all false
set_option maxRecDepth 100000
set_option maxHeartbeats 4000000
/-! What stands in the heap: a ghost role for each address, what is kept, the predicates. -/
namespace Kb
open PySem PySem.Spec PyProof.Rows L2

/-! ### roles, what is kept -/
abbrev Ro := Addr → Nat
def rs (ρ : Ro) (p : Addr) (r : Nat) : Ro := fun a => if a = p then r else ρ a
theorem rs_same {ρ : Ro} {p : Addr} {r : Nat} : rs ρ p r p = r := if_pos rfl
theorem rs_ne {ρ : Ro} {p a : Addr} {r : Nat} (h : a ≠ p) : rs ρ p r a = ρ a := if_neg h
structure Mv (S : Nat → Prop) (ρ : Ro) (H : Hp) (ρ' : Ro) (H' : Hp) : Prop where
  keep : ∀ a o, H a = some o → ¬ S (ρ a) → H' a = some o
  role : ∀ a o, H a = some o → ρ' a = ρ a
  tups : ∀ a xs, H a = some (.tup xs) → H' a = some (.tup xs)
  dom : ∀ a, H' a = none → H a = none
/-- no role -/
abbrev S0 : Nat → Prop := fun _ => False
section
variable {S S' : Nat → Prop} {ρ ρ1 ρ2 : Ro} {H H1 H2 : Hp} {p : Addr} {o u : HO} {r : Nat}
theorem Mv.refl : Mv S ρ H ρ H := ⟨fun _ _ h _ => h, fun _ _ _ => rfl, fun _ _ h => h, fun _ h => h⟩
theorem Mv.trans (a : Mv S ρ H ρ1 H1) (b : Mv S ρ1 H1 ρ2 H2) : Mv S ρ H ρ2 H2 where
  keep := fun c o h n => b.keep c o (a.keep c o h n) (by rw [a.role c o h]; exact n)
  role := fun c o h => by
    cases e : H1 c with
    | none => rw [a.dom c e] at h; cases h
    | some o' => rw [b.role c o' e, a.role c o h]
  tups := fun c xs h => b.tups c xs (a.tups c xs h)
  dom := fun c h => a.dom c (b.dom c h)
theorem Mv.mono (a : Mv S ρ H ρ1 H1) (h : ∀ n, S n → S' n) : Mv S' ρ H ρ1 H1 := ⟨fun c o e n => a.keep c o e fun z => n (h _ z), a.role, a.tups, a.dom⟩
theorem Mv.new (a : Mv S ρ H ρ1 H1) (hp : H1 p = none) (r : Nat) (o : HO) : Mv S ρ H (rs ρ1 p r) (upd H1 p o) where
  keep := fun c u h n => by
    have e := a.keep c u h n
    rw [upd_ne (ne_of_none e hp)]
    exact e
  role := fun c u h => by
    have n : c ≠ p := fun z => by
      rw [z, a.dom p hp] at h
      cases h
    rw [rs_ne n]
    exact a.role c u h
  tups := fun c xs h => by
    have e := a.tups c xs h
    rw [upd_ne (ne_of_none e hp)]
    exact e
  dom := fun c h => by
    by_cases z : c = p
    · rw [z, upd_same] at h
      cases h
    · rw [upd_ne z] at h
      exact a.dom c h
/-- a new object that keeps its (unspoken) role -/
theorem Mv.wr (a : Mv S ρ H ρ1 H1) (ho : H1 p = some u) (hu : ∀ xs, u ≠ .tup xs) (hs : H p = none ∨ S (ρ1 p)) (o : HO) : Mv S ρ H ρ1 (upd H1 p o) where
  keep := fun c v h n => by
    have z : c ≠ p := fun z => by
      rcases hs with q | q
      · rw [z, q] at h
        cases h
      · rw [← z, a.role c v h] at q
        exact n q
    rw [upd_ne z]
    exact a.keep c v h n
  role := a.role
  tups := fun c xs h => by
    have e := a.tups c xs h
    have z : c ≠ p := fun z => by
      rw [z, ho] at e
      exact hu xs (Option.some.inj e)
    rw [upd_ne z]
    exact e
  dom := fun c h => by
    by_cases z : c = p
    · rw [z, upd_same] at h
      cases h
    · rw [upd_ne z] at h
      exact a.dom c h
/-- a lock is taken, what is done within, the lock is left -/
theorem Mv.unlock {od : Obj} (a : Mv S ρ (upd H p (.frz od u)) ρ1 H1) (hp : H p = some u) (hu : ∀ xs, u ≠ .tup xs) : Mv S ρ H ρ1 (upd H1 p u) where
  keep := fun c v h n => by
    by_cases z : c = p
    · rw [z, hp] at h
      rw [z, upd_same]
      exact h
    · rw [upd_ne z]
      exact a.keep c v (by rw [upd_ne z]; exact h) n
  role := fun c v h => by
    by_cases z : c = p
    · rw [z]
      exact a.role p _ upd_same
    · exact a.role c v (by rw [upd_ne z]; exact h)
  tups := fun c xs h => by
    have z : c ≠ p := fun z => by
      rw [z, hp] at h
      exact hu xs (Option.some.inj h)
    rw [upd_ne z]
    exact a.tups c xs (by rw [upd_ne z]; exact h)
  dom := fun c h => by
    by_cases z : c = p
    · rw [z, upd_same] at h
      cases h
    · rw [upd_ne z] at h
      have q := a.dom c h
      rw [upd_ne z] at q
      exact q
/-- within a lock all but the locked one stands -/
theorem lock_at {od : Obj} {a : Addr} {v : HO} (ha : H a = some v) (n : a ≠ p) : upd H p (.frz od u) a = some v := by
  rw [upd_ne n]
  exact ha
theorem Mv.at0 (a : Mv S0 ρ H ρ1 H1) {c : Addr} (h : H c = some o) : H1 c = some o := a.keep c o h fun z => z
theorem Mv.ro (a : Mv S ρ H ρ1 H1) {c : Addr} (h : H c = some o) {k : Nat} (e : ρ c = k) : ρ1 c = k := (a.role c o h).trans e
theorem Mv.keeps (a : Mv S ρ H ρ1 H1) {c : Addr} (h : H c = some o) {k : Nat} (e : ρ c = k) (n : ¬ S k) : H1 c = some o := a.keep c o h (by rw [e]; exact n)
theorem ro_ne {a b : Addr} {i j : Nat} (h1 : ρ a = i) (h2 : ρ b = j) (n : i ≠ j) : a ≠ b := fun z => n (by rw [← h1, ← h2, z])
end

/-! ### cells: how data stands as a value -/
structure Cell (α : Type) where
  R : Hp → α → V → Prop
  mono : ∀ {H H' : Hp} {x : α} {v : V}, (∀ a xs, H a = some (.tup xs) → H' a = some (.tup xs)) → R H x v → R H' x v
def recV (r : Rec) : List V := [.int r.b, .int r.v, .int r.t, .bl r.d]
def RecAt (H : Hp) (r : Rec) (v : V) : Prop := ∃ t, v = .ref t ∧ H t = some (.tup (recV r))
def cI : Cell Int := ⟨fun _ i v => v = .int i, fun _ h => h⟩
def orec (H : Hp) : Option Rec → V → Prop
  | none, v => v = .non
  | some r, v => RecAt H r v
def cR : Cell (Option Rec) := ⟨orec, fun {H H' x v} k h => by
  cases x with
  | none => exact h
  | some r => exact let ⟨t, e, q⟩ := h; ⟨t, e, k t _ q⟩⟩
/-- a pending write: (cell, content) -/
def cW {α : Type} (c : Cell α) : Cell (Nat × α) := ⟨fun H x v => ∃ t u, v = .ref t ∧ H t = some (.tup [.int (x.1 : Nat), u]) ∧ c.R H x.2 u, fun k h => let ⟨t, u, e, q, z⟩ := h; ⟨t, u, e, k t _ q, c.mono k z⟩⟩
abbrev All {α : Type} (c : Cell α) (H : Hp) (l : List α) (vs : List V) : Prop := Paired (c.R H) l vs
section
variable {α : Type} {c : Cell α} {H H' : Hp}
theorem All.mono {l : List α} {vs : List V} (h : All c H l vs) (k : ∀ a xs, H a = some (.tup xs) → H' a = some (.tup xs)) : All c H' l vs := Paired.mapP h fun _ _ => c.mono k
theorem All.len : ∀ {l : List α} {vs : List V}, All c H l vs → l.length = vs.length
  | _, _, .nil => rfl
  | _, _, .cons _ t => congrArg Nat.succ (All.len t)
theorem All.get : ∀ {l : List α} {vs : List V} {i : Nat} {x : α}, All c H l vs → l[i]? = some x → ∃ v, vs[i]? = some v ∧ c.R H x v
  | _, _, _, _, .nil, e => by simp at e
  | _, _, 0, _, .cons r _, e => by simp at e; subst e; exact ⟨_, rfl, r⟩
  | _, _, i + 1, x, .cons _ t, e => by
    obtain ⟨u, h1, h2⟩ := All.get (i := i) (x := x) t (by simpa using e)
    exact ⟨u, by simpa using h1, h2⟩
theorem All.get' : ∀ {l : List α} {vs : List V} {i : Nat} {v : V}, All c H l vs → vs[i]? = some v → ∃ x, l[i]? = some x ∧ c.R H x v
  | _, _, _, _, .nil, e => by simp at e
  | _, _, 0, _, .cons r _, e => by simp at e; subst e; exact ⟨_, rfl, r⟩
  | _, _, i + 1, x, .cons _ t, e => by
    obtain ⟨u, h1, h2⟩ := All.get' (i := i) (v := x) t (by simpa using e)
    exact ⟨u, by simpa using h1, h2⟩
theorem All.set {x : α} {v : V} (r : c.R H x v) : ∀ {l : List α} {vs : List V} (i : Nat), All c H l vs → All c H (l.set i x) (vs.set i v)
  | _, _, _, .nil => .nil
  | _, _, 0, .cons _ t => .cons r t
  | _, _, i + 1, .cons q t => .cons q (All.set r i t)
theorem All.snoc {x : α} {v : V} (r : c.R H x v) : ∀ {l : List α} {vs : List V}, All c H l vs → All c H (l ++ [x]) (vs ++ [v])
  | _, _, .nil => .cons r .nil
  | _, _, .cons q t => .cons q (All.snoc r t)
end
theorem all_ints (H : Hp) : ∀ l : List Int, All cI H l (l.map V.int)
  | [] => .nil
  | _ :: r => .cons rfl (all_ints H r)
theorem ints_of {H : Hp} : ∀ {l : List Int} {vs : List V}, All cI H l vs → vs = l.map V.int
  | _, _, .nil => rfl
  | _, _, .cons r t => by rw [ints_of t, show _ = V.int _ from r]; rfl

/-! ### the four lists of a disk: roles r + 1 .. r + 4 -/
structure DkL where
  a1 : Addr
  a2 : Addr
  a3 : Addr
  a4 : Addr
structure DkAt {α : Type} (c : Cell α) (r : Nat) (ρ : Ro) (H : Hp) (A : DkL) (D : Dk α) : Prop where
  sh : ∃ vs, H A.a1 = some (.lst vs) ∧ All c H D.sh vs
  sy : ∃ vs, H A.a2 = some (.lst vs) ∧ All c H D.sy vs
  wt : ∃ vs, H A.a3 = some (.lst vs) ∧ All (cW c) H D.wt vs
  ta : H A.a4 = some (.lst [.int D.tr, .int D.tw, .int D.ts])
  r1 : ρ A.a1 = r + 1
  r2 : ρ A.a2 = r + 2
  r3 : ρ A.a3 = r + 3
  r4 : ρ A.a4 = r + 4
theorem DkAt.mv {α : Type} {c : Cell α} {r : Nat} {ρ ρ' : Ro} {H H' : Hp} {A : DkL} {D : Dk α} {S : Nat → Prop} (h : DkAt c r ρ H A D) (m : Mv S ρ H ρ' H') (n : ∀ i, i ≤ 4 → ¬ S (r + i)) : DkAt c r ρ' H' A D := by
  obtain ⟨⟨v1, h1, q1⟩, ⟨v2, h2, q2⟩, ⟨v3, h3, q3⟩, h4, r1, r2, r3, r4⟩ := h
  exact ⟨⟨v1, m.keeps h1 r1 (n 1 (by decide)), q1.mono m.tups⟩, ⟨v2, m.keeps h2 r2 (n 2 (by decide)), q2.mono m.tups⟩, ⟨v3, m.keeps h3 r3 (n 3 (by decide)), q3.mono m.tups⟩, m.keeps h4 r4 (n 4 (by decide)), m.ro h1 r1, m.ro h2 r2, m.ro h3 r3, m.ro h4 r4⟩
/-- the roles of a disk -/
def SD (r : Nat) : Nat → Prop := fun n => r ≤ n ∧ n ≤ r + 4
def diskF (A : DkL) : List (Str × V) := [("shown", .ref A.a1), ("synced", .ref A.a2), ("waiting", .ref A.a3), ("tally", .ref A.a4)]
/-- an instance of Disk -/
def DiskAt (K : PySem.W.Frag) {α : Type} (c : Cell α) (r : Nat) (ρ : Ro) (H : Hp) (d : Addr) (D : Dk α) : Prop :=
  ∃ dx A, H d = some (.ins (He.ga K "Disk") dx (diskF A)) ∧ ρ d = r ∧ DkAt c r ρ H A D
/-- the law's disk: a list of the four lists -/
def MDkAt {α : Type} (c : Cell α) (r : Nat) (ρ : Ro) (H : Hp) (d : Addr) (D : Dk α) : Prop :=
  ∃ A, H d = some (.lst [.ref A.a1, .ref A.a2, .ref A.a3, .ref A.a4]) ∧ ρ d = r ∧ DkAt c r ρ H A D
section
variable {K : PySem.W.Frag} {α : Type} {c : Cell α} {r : Nat} {ρ ρ' : Ro} {H H' : Hp} {d : Addr} {D : Dk α} {S : Nat → Prop}
theorem DiskAt.mv (h : DiskAt K c r ρ H d D) (m : Mv S ρ H ρ' H') (n : ∀ i, i ≤ 4 → ¬ S (r + i)) : DiskAt K c r ρ' H' d D :=
  let ⟨dx, A, h1, h2, h3⟩ := h; ⟨dx, A, m.keeps h1 h2 (n 0 (by decide)), m.ro h1 h2, h3.mv m n⟩
theorem MDkAt.mv (h : MDkAt c r ρ H d D) (m : Mv S ρ H ρ' H') (n : ∀ i, i ≤ 4 → ¬ S (r + i)) : MDkAt c r ρ' H' d D :=
  let ⟨A, h1, h2, h3⟩ := h; ⟨A, m.keeps h1 h2 (n 0 (by decide)), m.ro h1 h2, h3.mv m n⟩
end

/-! ### the dict of the known slots: roles r (the dict), r + 1 + slot (the entries) -/
def entV (t : Addr) (e : Ent) : List V := [.ref t, .int e.came, .int e.used, .int e.uses]
structure LRep (L : List (Nat × Ent)) (kn : Kn) : Prop where
  nd : (L.map (·.1)).Nodup
  mem : ∀ s e, (s, e) ∈ L ↔ Kn.at kn s = some e
def kvs (ea : Nat → Addr) (L : List (Nat × Ent)) : List (Key × V) := L.map fun x => (Sum.inl (x.1 : Int), V.ref (ea x.1))
structure KnowAt (r : Nat) (ρ : Ro) (H : Hp) (k : Addr) (ea : Nat → Addr) (L : List (Nat × Ent)) (kn : Kn) : Prop where
  rep : LRep L kn
  dict : H k = some (.dK (kvs ea L))
  role : ρ k = r
  ent : ∀ s e, Kn.at kn s = some e → ρ (ea s) = r + 1 + s ∧ ∃ t, H (ea s) = some (.lst (entV t e)) ∧ H t = some (.tup (recV e.r))
def KnownAt (r : Nat) (ρ : Ro) (H : Hp) (k : Addr) (kn : Kn) : Prop := kn.length ≤ 8 ∧ ∃ ea L, KnowAt r ρ H k ea L kn
def SK (r : Nat) : Nat → Prop := fun n => r ≤ n ∧ n ≤ r + 8
theorem at_lt {kn : Kn} {s : Nat} {e : Ent} (h : Kn.at kn s = some e) : s < kn.length := by
  unfold Kn.at at h
  cases q : kn[s]? with
  | none =>
    rw [q] at h
    cases h
  | some o => exact (List.getElem?_eq_some_iff.mp q).1
theorem KnownAt.mv {r : Nat} {ρ ρ' : Ro} {H H' : Hp} {k : Addr} {kn : Kn} {S : Nat → Prop} (h : KnownAt r ρ H k kn) (m : Mv S ρ H ρ' H') (n : ∀ i, i ≤ 8 → ¬ S (r + i)) : KnownAt r ρ' H' k kn := by
  obtain ⟨hl, ea, L, h⟩ := h
  refine ⟨hl, ea, L, h.rep, m.keeps h.dict h.role (n 0 (by decide)), m.ro h.dict h.role, fun s e he => ?_⟩
  obtain ⟨r1, t, h1, h2⟩ := h.ent s e he
  have ls := at_lt he
  exact ⟨m.ro h1 r1, t, m.keeps h1 r1 (by rw [Nat.add_assoc]; exact n (1 + s) (by omega)), m.tups _ _ h2⟩
end Kb
set_option Elab.async false
set_option linter.all false
set_option maxRecDepth 100000
set_option maxHeartbeats 4000000
/-! The dict of the known slots: read, an entry changed, put, dropped. -/
namespace Kb
open PySem PySem.Spec PyProof.Rows L2
theorem at_set {kn : Kn} {s j : Nat} {o : Option Ent} (hs : s < kn.length) : Kn.at (kn.set s o) j = if j = s then o else Kn.at kn j := by
  unfold Kn.at
  rw [List.getElem?_set]
  by_cases h : s = j
  · subst h
    rw [if_pos rfl, if_pos hs, if_pos rfl]
    rfl
  · rw [if_neg h, if_neg (Ne.symm h)]
theorem key_inj {a b : Nat} : ((Sum.inl (a : Int) : Key) = Sum.inl (b : Int)) ↔ a = b := by
  constructor
  · intro h
    exact Int.ofNat.inj (Sum.inl.inj h)
  · intro h
    rw [h]
theorem kvs_val {ea : Nat → Addr} {kn : Kn} {s : Nat} : ∀ {L : List (Nat × Ent)}, (L.map (·.1)).Nodup → (∀ e, (s, e) ∈ L ↔ Kn.at kn s = some e) → valV (kvs ea L) (Sum.inl (s : Int)) = (Kn.at kn s).map fun _ => V.ref (ea s) := by
  intro L
  induction L with
  | nil =>
    intro _ h
    cases q : Kn.at kn s with
    | none => rfl
    | some e => exact absurd ((h e).mpr q) (by simp)
  | cons x r ih =>
    intro nd h
    rw [List.map_cons, List.nodup_cons] at nd
    by_cases hx : x.1 = s
    · have e1 : Kn.at kn s = some x.2 := (h x.2).mp (by rw [← hx]; exact List.mem_cons_self)
      rw [e1]
      show valV ((Sum.inl (x.1 : Int), V.ref (ea x.1)) :: kvs ea r) _ = _
      rw [valV_pos (key_inj.mpr hx), hx]
      rfl
    · show valV ((Sum.inl (x.1 : Int), V.ref (ea x.1)) :: kvs ea r) _ = _
      rw [valV_neg (fun z => hx (key_inj.mp z))]
      cases q : Kn.at kn s with
      | none =>
        have e2 : valV (kvs ea r) (Sum.inl (s : Int)) = none := by
          have key : ∀ l : List (Nat × Ent), (∀ y ∈ l, y.1 ≠ s) → valV (kvs ea l) (Sum.inl (s : Int)) = none := by
            intro l
            induction l with
            | nil => intro _; rfl
            | cons y l ih2 =>
              intro hl
              show valV ((Sum.inl (y.1 : Int), V.ref (ea y.1)) :: kvs ea l) _ = _
              rw [valV_neg (fun z => hl y List.mem_cons_self (key_inj.mp z))]
              exact ih2 fun z hz => hl z (List.mem_cons_of_mem _ hz)
          refine key r fun y hy z => ?_
          have q2 : Kn.at kn s = some y.2 := (h y.2).mp (by
            rw [← z]
            exact List.mem_cons_of_mem _ hy)
          rw [q] at q2
          cases q2
        rw [e2]
        rfl
      | some e =>
        have i2 := ih nd.2 (fun e' => by
          constructor
          · intro m
            exact (h e').mp (List.mem_cons_of_mem _ m)
          · intro m
            rcases List.mem_cons.mp ((h e').mpr m) with z | z
            · exact absurd (by rw [← z]) hx
            · exact z)
        rw [i2, q]
section
variable {r : Nat} {ρ : Ro} {H : Hp} {k : Addr} {kn : Kn} {ea : Nat → Addr} {L : List (Nat × Ent)} {s : Nat}
theorem KnowAt.val (h : KnowAt r ρ H k ea L kn) : valV (kvs ea L) (Sum.inl (s : Int)) = (Kn.at kn s).map fun _ => V.ref (ea s) := kvs_val h.rep.nd fun e => h.rep.mem s e
theorem KnowAt.dget (h : KnowAt r ρ H k ea L kn) : DGet H k (.int (s : Int)) ((Kn.at kn s).map fun _ => V.ref (ea s)) := by
  rw [← h.val]
  exact DGet.k (k := Sum.inl (s : Int)) h.dict
theorem kvs_map {ea : Nat → Addr} {L : List (Nat × Ent)} (f : Nat × Ent → Ent) : kvs ea (L.map fun x => (x.1, f x)) = kvs ea L := by
  unfold kvs
  rw [List.map_map]
  rfl
/-- an entry's list is changed in its place -/
theorem KnowAt.setE (h : KnowAt r ρ H k ea L kn) {e e' : Ent} {t : Addr} (he : Kn.at kn s = some e) (ht : H t = some (.tup (recV e'.r))) : KnowAt r ρ (upd H (ea s) (.lst (entV t e'))) k ea (L.map fun x => (x.1, if x.1 = s then e' else x.2)) (kn.set s (some e')) := by
  have hs := at_lt he
  obtain ⟨r1, t0, h1, h2⟩ := h.ent s e he
  have nk : k ≠ ea s := ne_of h.dict h1 (by intro z; cases z)
  refine ⟨⟨?_, fun j e2 => ?_⟩, ?_, h.role, fun j e2 hj => ?_⟩
  · rw [List.map_map]
    exact h.rep.nd
  · rw [at_set hs]
    constructor
    · intro m
      obtain ⟨x, hx, q⟩ := List.mem_map.mp m
      injection q with q1 q2
      subst q1
      by_cases z : x.1 = s
      · rw [if_pos z]
        rw [if_pos z] at q2
        rw [q2]
      · rw [if_neg z]
        rw [if_neg z] at q2
        rw [← q2]
        exact (h.rep.mem x.1 x.2).mp hx
    · intro m
      by_cases z : j = s
      · rw [if_pos z] at m
        refine List.mem_map.mpr ⟨(s, e), (h.rep.mem s e).mpr he, ?_⟩
        show (s, if s = s then e' else e) = (j, e2)
        rw [if_pos rfl, z, Option.some.inj m]
      · rw [if_neg z] at m
        refine List.mem_map.mpr ⟨(j, e2), (h.rep.mem j e2).mpr m, ?_⟩
        show (j, if j = s then e' else e2) = (j, e2)
        rw [if_neg z]
  · rw [kvs_map, upd_ne nk]
    exact h.dict
  · rw [at_set hs] at hj
    by_cases z : j = s
    · rw [if_pos z] at hj
      have e3 := Option.some.inj hj
      subst e3
      rw [z]
      exact ⟨r1, t, upd_same, by rw [upd_ne (ne_of ht h1 (by intro z; cases z))]; exact ht⟩
    · rw [if_neg z] at hj
      obtain ⟨r3, t3, h3, h4⟩ := h.ent j e2 hj
      refine ⟨r3, t3, ?_, ?_⟩
      · rw [upd_ne (ro_ne r3 r1 (by omega))]
        exact h3
      · rw [upd_ne (ne_of h4 h1 (by intro z; cases z))]
        exact h4
theorem kvs_ea {ea ea' : Nat → Addr} : ∀ {L : List (Nat × Ent)}, (∀ x ∈ L, ea' x.1 = ea x.1) → kvs ea' L = kvs ea L
  | [], _ => rfl
  | x :: l, h => by
    show (Sum.inl (x.1 : Int), V.ref (ea' x.1)) :: kvs ea' l = (Sum.inl (x.1 : Int), V.ref (ea x.1)) :: kvs ea l
    rw [h x List.mem_cons_self, kvs_ea fun y hy => h y (List.mem_cons_of_mem _ hy)]
/-- a new entry at p under a key that was not there -/
theorem KnowAt.put (h : KnowAt r ρ H k ea L kn) {e : Ent} {p t : Addr} (hs : s < kn.length) (hn : Kn.at kn s = none) (hp : H p = some (.lst (entV t e))) (rp : ρ p = r + 1 + s) (ht : H t = some (.tup (recV e.r))) :
    KnowAt r ρ (upd H k (.dK (putK (kvs ea L) (Sum.inl (s : Int)) (.ref p)))) k (fun x => if x = s then p else ea x) (L ++ [(s, e)]) (kn.set s (some e)) := by
  have notin : ∀ x ∈ L, x.1 ≠ s := fun x hx z => by
    have q := (h.rep.mem x.1 x.2).mp hx
    rw [z, hn] at q
    cases q
  have nok : (kvs ea L).any (fun kv => decide (kv.1 = Sum.inl (s : Int))) = false := by
    rw [valV_any, h.val, hn]
    rfl
  refine ⟨⟨?_, fun j e2 => ?_⟩, ?_, h.role, fun j e2 hj => ?_⟩
  · rw [List.map_append, List.nodup_append]
    refine ⟨h.rep.nd, by simp, fun a ha b hb => ?_⟩
    obtain ⟨x, hx, q⟩ := List.mem_map.mp ha
    rw [List.map_singleton, List.mem_singleton] at hb
    rw [← q, hb]
    exact notin x hx
  · rw [at_set hs, List.mem_append, List.mem_singleton]
    by_cases z : j = s
    · rw [if_pos z]
      constructor
      · rintro (m | m)
        · exact absurd z (notin _ m)
        · injection m with m1 m2
          rw [m2]
      · intro m
        exact .inr (by rw [z, Option.some.inj m])
    · rw [if_neg z]
      constructor
      · rintro (m | m)
        · exact (h.rep.mem j e2).mp m
        · injection m with m1 m2
          exact absurd m1 z
      · intro m
        exact .inl ((h.rep.mem j e2).mpr m)
  · have e1 : kvs (fun x => if x = s then p else ea x) (L ++ [(s, e)]) = putK (kvs ea L) (Sum.inl (s : Int)) (.ref p) := by
      unfold putK
      rw [if_neg (by rw [nok]; decide)]
      show (L ++ [(s, e)]).map _ = _
      rw [List.map_append]
      have e2 : kvs (fun x => if x = s then p else ea x) L = kvs ea L := kvs_ea fun x hx => if_neg (notin x hx)
      show kvs (fun x => if x = s then p else ea x) L ++ [(Sum.inl (s : Int), V.ref (if s = s then p else ea s))] = _
      rw [e2, if_pos rfl]
    rw [e1]
    exact upd_same
  · rw [at_set hs] at hj
    by_cases z : j = s
    · rw [if_pos z] at hj
      have e3 := Option.some.inj hj
      subst e3
      subst z
      show ρ (if j = j then p else ea j) = _ ∧ _
      rw [if_pos rfl]
      refine ⟨rp, t, ?_, ?_⟩
      · rw [upd_ne (ne_of hp h.dict (by intro z; cases z))]
        exact hp
      · rw [upd_ne (ne_of ht h.dict (by intro z; cases z))]
        exact ht
    · rw [if_neg z] at hj
      obtain ⟨r3, t3, h3, h4⟩ := h.ent j e2 hj
      show ρ (if j = s then p else ea j) = _ ∧ _
      rw [if_neg z]
      refine ⟨r3, t3, ?_, ?_⟩
      · rw [upd_ne (ne_of h3 h.dict (by intro z; cases z))]
        exact h3
      · rw [upd_ne (ne_of h4 h.dict (by intro z; cases z))]
        exact h4
/-- a slot is dropped -/
theorem KnowAt.del (h : KnowAt r ρ H k ea L kn) (hs : s < kn.length) : KnowAt r ρ (upd H k (.dK (dropK (kvs ea L) (Sum.inl (s : Int))))) k ea (L.filter fun x => decide (x.1 ≠ s)) (kn.set s none) := by
  refine ⟨⟨?_, fun j e2 => ?_⟩, ?_, h.role, fun j e2 hj => ?_⟩
  · exact List.Nodup.sublist (List.Sublist.map _ List.filter_sublist) h.rep.nd
  · rw [at_set hs, List.mem_filter]
    by_cases z : j = s
    · rw [if_pos z]
      constructor
      · rintro ⟨_, m⟩
        exact absurd z (of_decide_eq_true m)
      · intro m
        cases m
    · rw [if_neg z]
      constructor
      · rintro ⟨m, _⟩
        exact (h.rep.mem j e2).mp m
      · intro m
        exact ⟨(h.rep.mem j e2).mpr m, decide_eq_true z⟩
  · have e1 : kvs ea (L.filter fun x => decide (x.1 ≠ s)) = dropK (kvs ea L) (Sum.inl (s : Int)) := by
      unfold dropK kvs
      rw [List.filter_map]
      congr 1
      refine List.filter_congr fun x _ => ?_
      show decide (x.1 ≠ s) = decide ((Sum.inl (x.1 : Int) : Key) ≠ Sum.inl (s : Int))
      by_cases q : x.1 = s
      · rw [decide_eq_false (fun z => z q), decide_eq_false (fun z => z (key_inj.mpr q))]
      · rw [decide_eq_true q]
        exact (decide_eq_true (show (Sum.inl (x.1 : Int) : Key) ≠ Sum.inl (s : Int) from fun z => q (key_inj.mp z))).symm
    rw [e1]
    exact upd_same
  · rw [at_set hs] at hj
    by_cases z : j = s
    · rw [if_pos z] at hj
      cases hj
    · rw [if_neg z] at hj
      obtain ⟨r3, t3, h3, h4⟩ := h.ent j e2 hj
      refine ⟨r3, t3, ?_, ?_⟩
      · rw [upd_ne (ne_of h3 h.dict (by intro z; cases z))]
        exact h3
      · rw [upd_ne (ne_of h4 h.dict (by intro z; cases z))]
        exact h4
theorem set_none {kn : Kn} {s : Nat} (h : Kn.at kn s = none) : kn.set s none = kn := by
  unfold Kn.at at h
  apply List.ext_getElem?
  intro i
  rw [List.getElem?_set]
  by_cases q : s = i
  · subst q
    rw [if_pos rfl]
    by_cases hl : s < kn.length
    · rw [if_pos hl]
      rw [List.getElem?_eq_getElem hl] at h ⊢
      have h' : kn[s] = none := h
      rw [h']
    · rw [if_neg hl, List.getElem?_eq_none (Nat.le_of_not_lt hl)]
  · rw [if_neg q]
/-- no slot is known -/
def nones (n : Nat) : Kn := List.replicate n none
theorem at_nones {n s : Nat} : Kn.at (nones n) s = none := by
  unfold Kn.at nones
  rw [List.getElem?_replicate]
  by_cases h : s < n
  · rw [if_pos h] <;> rfl
  · rw [if_neg h] <;> rfl
theorem know_nil {ρ : Ro} {H : Hp} {k : Addr} {n : Nat} (hk : H k = some (.dK [])) (rk : ρ k = r) : KnowAt r ρ H k (fun _ => 0) [] (nones n) :=
  ⟨⟨List.nodup_nil, fun s e => by rw [at_nones]; simp⟩, hk, rk, fun s e he => by rw [at_nones] at he; cases he⟩
end
theorem nodup_lt : ∀ (n : Nat) (l : List Nat), l.Nodup → (∀ x ∈ l, x < n) → l.length ≤ n
  | 0, l, _, h => by
    cases l with
    | nil => exact Nat.le_refl _
    | cons x r => exact absurd (h x List.mem_cons_self) (Nat.not_lt_zero _)
  | n + 1, l, nd, h => by
    by_cases hm : n ∈ l
    · have i1 := nodup_lt n (l.erase n) (nd.erase n) fun x hx => by
        have q := (List.Nodup.mem_erase_iff nd).mp hx
        have q2 := h x q.2
        have q3 : x ≠ n := q.1
        omega
      rw [List.length_erase_of_mem hm] at i1
      omega
    · have i1 := nodup_lt n l nd fun x hx => by
        have q2 := h x hx
        have q3 : x ≠ n := fun z => hm (by rw [← z]; exact hx)
        omega
      omega
theorem LRep.len {L : List (Nat × Ent)} {kn : Kn} (h : LRep L kn) : L.length ≤ kn.length := by
  have e := nodup_lt kn.length (L.map (·.1)) h.nd fun x hx => by
    obtain ⟨y, hy, q⟩ := List.mem_map.mp hx
    rw [← q]
    exact at_lt ((h.mem y.1 y.2).mp hy)
  rw [List.length_map] at e
  exact e
end Kb
set_option Elab.async false
set_option linter.all false
set_option maxRecDepth 100000
set_option maxHeartbeats 4000000
/-! Promises in short forms; the states of the pair and of the law's model. -/
namespace Kb
open PySem PySem.Spec PyProof.Rows L2
/-! ### promises by the number of arguments -/
def Sp0 (f : Hp → VK → Prop) : Sp := fun vs H Q _ => vs = [] ∧ f H Q
def Sp1 (f : V → Hp → VK → Prop) : Sp := fun vs H Q _ => ∃ a, vs = [a] ∧ f a H Q
def Sp2 (f : V → V → Hp → VK → Prop) : Sp := fun vs H Q _ => ∃ a b, vs = [a, b] ∧ f a b H Q
def Sp3 (f : V → V → V → Hp → VK → Prop) : Sp := fun vs H Q _ => ∃ a b c, vs = [a, b, c] ∧ f a b c H Q
def Sp4 (f : V → V → V → V → Hp → VK → Prop) : Sp := fun vs H Q _ => ∃ a b c d, vs = [a, b, c, d] ∧ f a b c d H Q
def Sp5 (f : V → V → V → V → V → Hp → VK → Prop) : Sp := fun vs H Q _ => ∃ a b c d e, vs = [a, b, c, d, e] ∧ f a b c d e H Q
def Sp6 (f : V → V → V → V → V → V → Hp → VK → Prop) : Sp := fun vs H Q _ => ∃ a b c d e g, vs = [a, b, c, d, e, g] ∧ f a b c d e g H Q
theorem len0 {f} (vs : List V) (H : Hp) (Q : VK) (E : XK) (h : Sp0 f vs H Q E) : vs.length = 0 := by obtain ⟨rfl, _⟩ := h; rfl
theorem len1 {f} (vs : List V) (H : Hp) (Q : VK) (E : XK) (h : Sp1 f vs H Q E) : vs.length = 1 := by obtain ⟨_, rfl, _⟩ := h; rfl
theorem len2 {f} (vs : List V) (H : Hp) (Q : VK) (E : XK) (h : Sp2 f vs H Q E) : vs.length = 2 := by obtain ⟨_, _, rfl, _⟩ := h; rfl
theorem len3 {f} (vs : List V) (H : Hp) (Q : VK) (E : XK) (h : Sp3 f vs H Q E) : vs.length = 3 := by obtain ⟨_, _, _, rfl, _⟩ := h; rfl
theorem len4 {f} (vs : List V) (H : Hp) (Q : VK) (E : XK) (h : Sp4 f vs H Q E) : vs.length = 4 := by obtain ⟨_, _, _, _, rfl, _⟩ := h; rfl
theorem len5 {f} (vs : List V) (H : Hp) (Q : VK) (E : XK) (h : Sp5 f vs H Q E) : vs.length = 5 := by obtain ⟨_, _, _, _, _, rfl, _⟩ := h; rfl
theorem len6 {f} (vs : List V) (H : Hp) (Q : VK) (E : XK) (h : Sp6 f vs H Q E) : vs.length = 6 := by obtain ⟨_, _, _, _, _, _, rfl, _⟩ := h; rfl

/-! ### bundles -/
section
variable {P : Program} {w : World} {K : PySem.W.Frag} {mg : Str → Option Value} {base : Heap} {x qual : Str} {params : Arguments} {body : List Stmt} {scope : Scope} {kws : List (Str × V)} {f C : Addr} {fd : FuncData} {N ps : List Str} {k : Nat} {sp : Sp}
/-- what a body's walk must show -/
abbrev BodyOk (P : Program) (w : World) (K : PySem.W.Frag) (mg : Str → Option Value) (base : Heap) (N : List Str) (qual : Str) (scope : Scope) (f : Addr) (body : List Stmt) (k : Nat) (sp : Sp) : Prop :=
  ∀ (cdv : Value) (A : Around) (outer : List Env) (s : Shared) (H : Hp) (vs : List V) (Q : VK) (E : XK), Room k (A.deeper (envOfC qual scope s.heap.objs.size f cdv)) → sp vs H Q E →
      ∃ t, PSs (cxOf CX0 P w K mg base N qual scope f cdv A outer s H E).nox body t ∧ t { nx := fun _ H' => Q .non H', rt := Q } (start N vs) H
abbrev BindsOk (x qual : Str) (params : Arguments) (body : List Stmt) (scope : Scope) (ps : List Str) : Prop := ∀ (kV doc pm : Value) (an : Option Addr) (cdv ct : Value) (us : List Value), us.length = ps.length → bindArgs (PySem.W.fnOf x qual params body scope .none kV doc pm an cdv ct) ⟨us, []⟩ = pure (ps.zip us)
theorem fn_ok {dvs : List V} (F : FunD K x qual params body scope dvs kws f fd) (S : FnScope N ps scope) (len : ∀ vs H Q E, sp vs H Q E → vs.length = ps.length) (hb : BodyOk P w K mg base N qual scope f body k sp) : FnOk P w K mg base CX0 (k + 1) f fd ps sp := by
  refine FunD.ok F S len fun cdv A outer s H vs Q E hr h => ?_
  obtain ⟨t, ht, hq⟩ := hb cdv A outer s H vs Q E hr h
  exact ⟨t, ht.nox, hq⟩
theorem cal_of (F : FunD K x qual params body scope [] [] f fd) (hm : mg x = some (.ref f)) (S : FnScope N ps scope) (len : ∀ vs H Q E, sp vs H Q E → vs.length = ps.length) (b : BindsOk x qual params body scope ps) (hb : BodyOk P w K mg base N qual scope f body k sp) :
    C8.Cal P w K mg base (k + 1) x sp [] := ⟨f, fd, ps, [], fn_ok F S len hb, hm, F.kp, F.bindsN b, .nil⟩
theorem met_of {m : Str} (F : FunD K m qual params body scope [] [] f fd) (c : Cls K C) (hm : Meth K C m f) (S : FnScope N ps scope) (len : ∀ vs H Q E, sp vs H Q E → vs.length = ps.length) (b : BindsOk m qual params body scope ps) (hb : BodyOk P w K mg base N qual scope f body k sp) :
    C8.Met P w K mg base (k + 1) C m sp [] := ⟨f, fd, ps, [], c, hm, fn_ok F S len hb, F.bindsN b, .nil⟩
theorem mak_of {c : Str} (F : FunD K "__init__" qual params body scope [] [] f fd) (M : Mk K C f) (hm : mg c = some (.ref C)) (S : FnScope N ps scope) (len : ∀ vs H Q E, sp vs H Q E → vs.length = ps.length) (b : BindsOk "__init__" qual params body scope ps) (hb : BodyOk P w K mg base N qual scope f body k sp) :
    C8.Mak P w K mg base (k + 1) c C sp [] := ⟨f, fd, ps, [], M, fn_ok F S len hb, hm, F.bindsN b, .nil⟩
/-- a property -/
structure Pro (P : Program) (w : World) (K : PySem.W.Frag) (mg : Str → Option Value) (base : Heap) (k : Nat) (C : Addr) (f : Str) (sp : Sp) : Prop where
  ex : ∃ (p g : Addr) (fd : FuncData) (ps : List Str), Cls K C ∧ PropOf K C f p g ∧ FnOk P w K mg base CX0 k g fd ps sp ∧ Binds K fd ps []
theorem pro_of {m : Str} {p : Addr} (F : FunD K m qual params body scope [] [] f fd) (c : Cls K C) (hp : PropOf K C m p f) (S : FnScope N ps scope) (len : ∀ vs H Q E, sp vs H Q E → vs.length = ps.length) (b : BindsOk m qual params body scope ps) (hb : BodyOk P w K mg base N qual scope f body k sp) :
    Pro P w K mg base (k + 1) C m sp := ⟨p, f, fd, ps, c, hp, fn_ok F S len hb, F.bindsN b⟩
end
section
variable {X : Cx} {k j : Nat} {C : Addr} {f x : Str} {sp : Sp} {e : PySem.Expr} {ta : TE} {pos p : Pos}
theorem pe_pr (c : Pro X.prog X.w X.K X.mg X.base k C f sp) (hr : Room j X.A) (hk : k + 1 ≤ j) (he : PE X e ta) (hab : attributeBase e f X.env (eval e X.env) = eval e X.env := by rfl) : PE X (.Attribute e f pos) (tProp C sp [] E0 ta) := by
  obtain ⟨p, g, fd, ps, cl, hp, F, b⟩ := c.ex
  exact pe_prop he cl hp F (hr.mono hk) b .nil pass0 hab
theorem pe_c0 (c : C8.Cal X.prog X.w X.K X.mg X.base k x sp []) (hr : Room j X.A) (hk : k ≤ j) (hg : Gl X x) (hdb : (x == ("__debug__" : Str)) = false := by decide) : PE X (.Call (.Name x p) [] [] pos) (tCall sp [] E0 tNil) := by
  obtain ⟨f, fd, ps, ds, F, hm, kp, b, d⟩ := c.ex
  exact pe_call0 F (hr.mono hk) hg hm kp b d pass0 hdb
end
theorem gcs {mg : Str → Option Value} {x z : Str} (h : ∃ t, mg x = some (.str z t)) : ∃ u, mg x = some u ∧ RelV (.str z) u := let ⟨t, e⟩ := h; ⟨_, e, t, rfl⟩
theorem gci {mg : Str → Option Value} {x : Str} {i : Int} (h : ∃ t, mg x = some (.int i t)) : ∃ u, mg x = some u ∧ RelV (.int i) u := let ⟨t, e⟩ := h; ⟨_, e, t, rfl⟩
theorem gcr {mg : Str → Option Value} {x : Str} {a : Addr} (h : mg x = some (.ref a)) : ∃ u, mg x = some u ∧ RelV (.ref a) u := ⟨_, h, rfl⟩

/-! ### words as texts -/
def wdS : Wd → Str
  | .slow => "slow"
  | .sslow => "sync slow"
  | .fast => "fast"
  | .sfast => "sync fast"
  | .free => "free"
  | .mark => "mark"
  | .done => "done"
def wayS : Way → Str
  | .thr => "through"
  | .back => "back"
  | .arou => "around"
def choS : Cho → Str
  | .used => "used"
  | .came => "came"
  | .rare => "rare"
def keepS : Bool → Str
  | true => "keep"
  | false => "pass"
def wdV (l : List Wd) : List V := l.map fun w => V.str (wdS w)
def ruleV (c : Cfg) : List V := [.str (wayS c.way), .str (keepS c.keep), .str (choS c.cho), .int (c.bound : Int)]

/-! ### the pair -/
structure PA where
  dx : Addr
  ds : Addr
  df : Addr
  ap : Addr
  ar : Addr
  ao : Addr
  ak : Addr
  aw : Addr
def pairF (A : PA) (tn bg fd : Int) (on : Bool) (dn : V) : List (Str × V) := [("slow", .ref A.ds), ("fast", .ref A.df), ("past", .ref A.ap), ("rule", .ref A.ar), ("order", .ref A.ao), ("slots", .ref A.ak), ("turn", .int tn), ("begun", .int bg), ("found", .int fd), ("left", .non), ("is_powered", .bl on), ("is_done", dn), ("writes", .ref A.aw)]
def RulesAt (K : PySem.W.Frag) (ρ : Ro) (H : Hp) (a : Addr) (c : Cfg) : Prop := ∃ dx t, H a = some (.ins (He.ga K "Rules") dx [("parts", .ref t)]) ∧ ρ a = 1100 ∧ H t = some (.tup (ruleV c))
structure Rcps (H : Hp) (c : Cfg) (vs : List V) : Prop where
  ex : ∃ t1 t2 t3 t4, vs = [.ref t1, .ref t2, .ref t3, .ref t4] ∧ H t1 = some (.tup (wdV c.thr)) ∧ H t2 = some (.tup (wdV c.bk)) ∧ H t3 = some (.tup (wdV c.ar)) ∧ H t4 = some (.tup (wdV c.cl))
def RecsAt (K : PySem.W.Frag) (ρ : Ro) (H : Hp) (a : Addr) (c : Cfg) : Prop := ∃ dx t vs, H a = some (.ins (He.ga K "Recipes") dx [("parts", .ref t)]) ∧ ρ a = 1101 ∧ H t = some (.tup vs) ∧ Rcps H c vs
section
variable {K : PySem.W.Frag} {S : Nat → Prop} {ρ ρ' : Ro} {H H' : Hp} {a : Addr} {c : Cfg} {vs : List V}
theorem Rcps.mv (h : Rcps H c vs) (k : ∀ a xs, H a = some (.tup xs) → H' a = some (.tup xs)) : Rcps H' c vs := let ⟨t1, t2, t3, t4, e, h1, h2, h3, h4⟩ := h.ex; ⟨t1, t2, t3, t4, e, k _ _ h1, k _ _ h2, k _ _ h3, k _ _ h4⟩
theorem RulesAt.mv (h : RulesAt K ρ H a c) (m : Mv S ρ H ρ' H') (n : ¬ S 1100) : RulesAt K ρ' H' a c := let ⟨dx, t, h1, h2, h3⟩ := h; ⟨dx, t, m.keeps h1 h2 n, m.ro h1 h2, m.tups _ _ h3⟩
theorem RecsAt.mv (h : RecsAt K ρ H a c) (m : Mv S ρ H ρ' H') (n : ¬ S 1101) : RecsAt K ρ' H' a c := let ⟨dx, t, vs, h1, h2, h3, h4⟩ := h; ⟨dx, t, vs, m.keeps h1 h2 n, m.ro h1 h2, m.tups _ _ h3, h4.mv m.tups⟩
end
/-- the pair's roles: 1000 itself, 1001 past, 1002 writes, 1010 .. 1014 slow, 1020 .. 1024 fast, 1030 .. 1038 known -/
structure PairS (K : PySem.W.Frag) (c : Cfg) (ρ : Ro) (H : Hp) (p : Addr) (A : PA) (m : Mem) (D : Ds) (on : Bool) : Prop where
  obj : ∃ dn, H p = some (.ins (He.ga K "Pair") A.dx (pairF A m.turn m.begun m.hits on dn))
  role : ρ p = 1000
  past : H A.ap = some (.lst [.int 0, .int 0, .int 0, .int 0, .int 0, .int 0])
  rp : ρ A.ap = 1001
  wr : ∃ ws : List Int, ws.length = m.kn.length ∧ H A.aw = some (.lst (ws.map V.int))
  rw_ : ρ A.aw = 1002
  rul : RulesAt K ρ H A.ar c
  ord : RecsAt K ρ H A.ao c
  slow : DiskAt K cI 1010 ρ H A.ds D.slow
  fast : DiskAt K cR 1020 ρ H A.df D.fast
  kn : KnownAt 1030 ρ H A.ak m.kn
def PairAt (K : PySem.W.Frag) (c : Cfg) (ρ : Ro) (H : Hp) (p : Addr) (m : Mem) (D : Ds) (on : Bool) : Prop := ∃ A, PairS K c ρ H p A m D on
/-- the roles of the pair -/
def SP : Nat → Prop := fun n => 1000 ≤ n ∧ n < 1100
theorem PairS.mv {K : PySem.W.Frag} {c : Cfg} {S : Nat → Prop} {ρ ρ' : Ro} {H H' : Hp} {p : Addr} {A : PA} {m : Mem} {D : Ds} {on : Bool} (h : PairS K c ρ H p A m D on) (v : Mv S ρ H ρ' H') (n : ∀ i, 1000 ≤ i → i < 2000 → ¬ S i) (n0 : ¬ S 0) : PairS K c ρ' H' p A m D on := by
  obtain ⟨dn, ho⟩ := h.obj
  obtain ⟨ws, hl, hw⟩ := h.wr
  exact ⟨⟨dn, v.keeps ho h.role (n _ (by decide) (by decide))⟩, v.ro ho h.role, v.keeps h.past h.rp (n _ (by decide) (by decide)), v.ro h.past h.rp, ⟨ws, hl, v.keeps hw h.rw_ (n _ (by decide) (by decide))⟩, v.ro hw h.rw_, h.rul.mv v (n _ (by decide) (by decide)), h.ord.mv v (n _ (by decide) (by decide)),
    h.slow.mv v fun i hi => n _ (by omega) (by omega), h.fast.mv v fun i hi => n _ (by omega) (by omega), h.kn.mv v fun i hi => n _ (by omega) (by omega)⟩
theorem PairAt.mv {K : PySem.W.Frag} {c : Cfg} {S : Nat → Prop} {ρ ρ' : Ro} {H H' : Hp} {p : Addr} {m : Mem} {D : Ds} {on : Bool} (h : PairAt K c ρ H p m D on) (v : Mv S ρ H ρ' H') (n : ∀ i, 1000 ≤ i → i < 2000 → ¬ S i) (n0 : ¬ S 0) : PairAt K c ρ' H' p m D on := let ⟨A, z⟩ := h; ⟨A, z.mv v n n0⟩

/-! ### the law's model -/
structure MA where
  s : Addr
  f : Addr
  r : Addr
  o : Addr
  k : Addr
  p : Addr
def modF (A : MA) (m : Mem) (on : Bool) : List (Key × V) := [(.inr "slow", .ref A.s), (.inr "fast", .ref A.f), (.inr "rules", .ref A.r), (.inr "recipes", .ref A.o), (.inr "known", .ref A.k), (.inr "turn", .int m.turn), (.inr "begun", .int m.begun), (.inr "hits", .int m.hits), (.inr "left", .non), (.inr "on", .bl on), (.inr "past", .ref A.p)]
/-- roles: 2000 itself, 2001 past, 2010 .. slow, 2020 .. fast, 2030 .. known -/
structure ModS (c : Cfg) (ρ : Ro) (H : Hp) (a : Addr) (A : MA) (m : Mem) (D : Ds) (on : Bool) : Prop where
  obj : H a = some (.dK (modF A m on))
  role : ρ a = 2000
  past : H A.p = some (.lst [.int 0, .int 0, .int 0, .int 0, .int 0, .int 0])
  rp : ρ A.p = 2001
  rul : H A.r = some (.tup (ruleV c))
  ord : ∃ vs, H A.o = some (.lst vs) ∧ Rcps H c vs
  ro : ρ A.o = 0
  slow : MDkAt cI 2010 ρ H A.s D.slow
  fast : MDkAt cR 2020 ρ H A.f D.fast
  kn : KnownAt 2030 ρ H A.k m.kn
def ModAt (c : Cfg) (ρ : Ro) (H : Hp) (a : Addr) (m : Mem) (D : Ds) (on : Bool) : Prop := ∃ A, ModS c ρ H a A m D on
def SM : Nat → Prop := fun n => 2000 ≤ n ∧ n < 3000
theorem ModS.mv {c : Cfg} {S : Nat → Prop} {ρ ρ' : Ro} {H H' : Hp} {a : Addr} {A : MA} {m : Mem} {D : Ds} {on : Bool} (h : ModS c ρ H a A m D on) (v : Mv S ρ H ρ' H') (n : ∀ i, 2000 ≤ i → i < 3000 → ¬ S i) (n0 : ¬ S 0) : ModS c ρ' H' a A m D on := by
  obtain ⟨vs, ho, hr⟩ := h.ord
  exact ⟨v.keeps h.obj h.role (n _ (by decide) (by decide)), v.ro h.obj h.role, v.keeps h.past h.rp (n _ (by decide) (by decide)), v.ro h.past h.rp, v.tups _ _ h.rul, ⟨vs, v.keeps ho h.ro n0, hr.mv v.tups⟩, v.ro ho h.ro,
    h.slow.mv v fun i hi => n _ (by omega) (by omega), h.fast.mv v fun i hi => n _ (by omega) (by omega), h.kn.mv v fun i hi => n _ (by omega) (by omega)⟩
theorem ModAt.mv {c : Cfg} {S : Nat → Prop} {ρ ρ' : Ro} {H H' : Hp} {a : Addr} {m : Mem} {D : Ds} {on : Bool} (h : ModAt c ρ H a m D on) (v : Mv S ρ H ρ' H') (n : ∀ i, 2000 ≤ i → i < 3000 → ¬ S i) (n0 : ¬ S 0) : ModAt c ρ' H' a m D on := let ⟨A, z⟩ := h; ⟨A, z.mv v n n0⟩
theorem spN : ∀ i, 2000 ≤ i → i < 3000 → ¬ SP i := fun i h1 h2 z => by unfold SP at z; omega
theorem smN : ∀ i, 1000 ≤ i → i < 2000 → ¬ SM i := fun i h1 h2 z => by unfold SM at z; omega
theorem sp0 : ¬ SP 0 := fun z => by unfold SP at z; omega
theorem sm0 : ¬ SM 0 := fun z => by unfold SM at z; omega
end Kb
set_option Elab.async false
set_option linter.all false
set_option maxRecDepth 100000
set_option maxHeartbeats 4000000
/-! Comprehensions that change nothing that stood. -/
namespace Kb
open PySem PySem.Spec PyProof.Rows L2
def cV : Cell V := ⟨fun _ x v => v = x, fun _ h => h⟩
theorem vs_of {H : Hp} : ∀ {l vs : List V}, All cV H l vs → vs = l
  | _, _, .nil => rfl
  | _, _, .cons r t => by rw [vs_of t, show _ = _ from r]
theorem filterMap_len {α β : Type} (f : α → Option β) (l : List α) : (l.filterMap f).length ≤ l.length := List.length_filterMap_le f l
theorem lc_gen {α : Type} {J : It} {n : Nat} {G : Hp → Prop} {Y : Nat → Hp → V → Hp → Prop} {g : TG} {tt : TT} {te : TE} {vs : List Nat} {σ : L2.St} {H1 : Hp} {D : Addr} {Qd : Hp → Prop} {ρ : Ro} (w : Walk J n G Y) (hn : n ≤ 10000) (c : Cell α) (f : Nat → Option α)
    (hG : ∀ ρ' H', Mv S0 ρ H1 ρ' H' → G H')
    (hs : ∀ i x ρ' H' H'', i < n → Mv S0 ρ H1 ρ' H' → Y i H' x H'' → ∀ (Ny : VK) (Nn : Hp → Prop), (∀ y ρ4 H4 a, f i = some a → c.R H4 a y → Mv S0 ρ' H' ρ4 H4 → Ny y H4) → (∀ ρ3 H3, f i = none → Mv S0 ρ' H' ρ3 H3 → Nn H3) →
      g x (wipe σ vs) H'' fun σ2 H2 => wipe σ2 vs = wipe σ vs ∧ tt σ2 H2 fun b H3 => if b = true then te σ2 H3 Ny else Nn H3)
    (hD : H1 D = none) (hd : ∀ ρ' H' ys, Mv S0 ρ H1 ρ' H' → ρ' D = 0 → H' D = some (.lst ys) → All c H' ((List.range n).filterMap f) ys → Qd H') :
    ∃ W : Nat → Nat → Hp → Prop, (∃ m, W 0 m (upd H1 D (.lst []))) ∧ ∀ i m H, W i m H →
      (J.stop i H ∧ Qd H) ∨ (J.go i H ∧ ∃ Nx : Hp → Prop, (∀ H', Nx H' → ∃ m', m' < m ∧ W (i + 1) m' H') ∧ ∀ x H', J.yld i H x H' → g x (wipe σ vs) H' fun σ2 H2 => wipe σ2 vs = wipe σ vs ∧ tt σ2 H2 fun b H3 =>
        if b = true then te σ2 H3 fun y H4 => ∃ acc, H4 D = some (.lst acc) ∧ acc.length < sizeLine ∧ Nx (upd H4 D (.lst (acc ++ [y]))) else Nx H3) := by
  refine lc_it (Qd := Qd) w (fun i H' => ∃ ρ' ys, Mv S0 ρ H1 ρ' H' ∧ H' D = some (.lst ys) ∧ ρ' D = 0 ∧ All c H' ((List.range i).filterMap f) ys)
    ⟨rs ρ D 0, [], Mv.refl.new hD 0 _, upd_same, rs_same, .nil⟩ (fun i H' _ ⟨ρ', ys, m, _⟩ => hG ρ' H' m) (fun i x H' H'' hi ⟨ρ', ys, m, hy, r0, ha⟩ y => ?_) (fun H' ⟨ρ', ys, m, hy, r0, ha⟩ => hd ρ' H' ys m r0 hy ha)
  refine hs i x ρ' H' H'' hi m y _ _ (fun y ρ4 H4 a fa ra m4 => ?_) (fun ρ3 H3 fn m3 => ?_)
  · have h4 := m4.at0 hy
    have hl := ha.len
    have hl2 := filterMap_len f (List.range i)
    rw [List.length_range] at hl2
    refine ⟨ys, h4, Nat.lt_of_lt_of_le (show ys.length < 10001 by omega) (by decide), ρ4, ys ++ [y], (m.trans m4).wr h4 (fun xs z => by cases z) (.inl hD) _, upd_same, (m4.role D _ hy).trans r0, ?_⟩
    have e : (List.range (i + 1)).filterMap f = (List.range i).filterMap f ++ [a] := by
      rw [List.range_succ, List.filterMap_append]
      simp [fa]
    rw [e]
    have k : ∀ b xs, H4 b = some (.tup xs) → upd H4 D (.lst (ys ++ [y])) b = some (.tup xs) := fun b xs q => by
      rw [upd_ne (ne_of q h4 (by intro z; cases z))]
      exact q
    exact ((ha.mono m4.tups).mono k).snoc (c.mono k ra)
  · refine ⟨ρ3, ys, m.trans m3, m3.at0 hy, (m3.role D _ hy).trans r0, ?_⟩
    have e : (List.range (i + 1)).filterMap f = (List.range i).filterMap f := by
      rw [List.range_succ, List.filterMap_append]
      simp [fn]
    rw [e]
    exact ha.mono m3.tups
/-- what follows a comprehension under the lock of the dict at d -/
theorem Mv.unlk {ρ ρ' : Ro} {H H' : Hp} {d : Addr} {od : Obj} {kv : List (Key × V)} (hd : H d = some (.dK kv)) (m : Mv S0 ρ (upd H d (.frz od (.dK kv))) ρ' H') : H' d = some (.frz od (.dK kv)) ∧ Mv S0 ρ H ρ' (upd H' d (.dK kv)) :=
  ⟨m.at0 upd_same, m.unlock hd fun xs z => by cases z⟩
/-- a new pair's slots, for a target of two names -/
theorem pair_at {i j : Nat} {K : PySem.W.Frag} {T : Addr} {x y : V} {σ : L2.St} {H : Hp} {Q : L2.St → Hp → Prop} (h : Q ((σ.set i (some x)).set j (some y)) (upd H T (.tup [x, y]))) : gTup K 2 (gCons (gName i) (gCons (gName j) gNil)) (.ref T) σ (upd H T (.tup [x, y])) Q :=
  ⟨T, [x, y], rfl, SqT.of upd_same, rfl, _, _, rfl, _, _, rfl, rfl, h⟩
end Kb
set_option Elab.async false
set_option linter.all false
set_option maxRecDepth 100000
set_option maxHeartbeats 4000000
/-! The four lists of a disk, changed. -/
namespace Kb
open PySem PySem.Spec PyProof.Rows L2
theorem ite_not {c : Bool} {A B : Prop} (h : c = true) (y : B) : if (!c) = true then A else B := by
  subst h
  exact y
theorem ite_tt {c : Bool} {A B : Prop} (h : c = true) (y : A) : if c = true then A else B := by
  subst h
  exact y
theorem ite_ff {c : Bool} {A B : Prop} (h : c = false) (y : B) : if c = true then A else B := by
  subst h
  exact y
section
variable {α : Type} {c : Cell α} {r : Nat} {ρ : Ro} {H : Hp} {A : DkL} {D : Dk α}
theorem tup_upd {a : Addr} {xs ys : List V} (h : H a = some (.lst xs)) : ∀ b zs, H b = some (.tup zs) → upd H a (.lst ys) b = some (.tup zs) := fun b zs q => by
  rw [upd_ne (ne_of q h (by intro z; cases z))]
  exact q
theorem DkAt.tal (h : DkAt c r ρ H A D) (a b d : Int) : DkAt c r ρ (upd H A.a4 (.lst [.int a, .int b, .int d])) A { D with tr := a, tw := b, ts := d } := by
  obtain ⟨⟨v1, h1, q1⟩, ⟨v2, h2, q2⟩, ⟨v3, h3, q3⟩, h4, r1, r2, r3, r4⟩ := h
  have k := tup_upd (ys := [.int a, .int b, .int d]) h4
  exact ⟨⟨v1, by rw [upd_ne (ro_ne r1 r4 (by omega))]; exact h1, q1.mono k⟩, ⟨v2, by rw [upd_ne (ro_ne r2 r4 (by omega))]; exact h2, q2.mono k⟩, ⟨v3, by rw [upd_ne (ro_ne r3 r4 (by omega))]; exact h3, q3.mono k⟩, upd_same, r1, r2, r3, r4⟩
theorem DkAt.put (h : DkAt c r ρ H A D) {vs : List V} (hv : H A.a1 = some (.lst vs)) (i : Nat) {x : α} {v : V} (hx : c.R H x v) : DkAt c r ρ (upd H A.a1 (.lst (vs.set i v))) A { D with sh := D.sh.set i x } := by
  obtain ⟨⟨v1, h1, q1⟩, ⟨v2, h2, q2⟩, ⟨v3, h3, q3⟩, h4, r1, r2, r3, r4⟩ := h
  rw [h1] at hv
  cases hv
  have k := tup_upd (ys := vs.set i v) h1
  exact ⟨⟨_, upd_same, (q1.mono k).set (c.mono k hx) i⟩, ⟨v2, by rw [upd_ne (ro_ne r2 r1 (by omega))]; exact h2, q2.mono k⟩, ⟨v3, by rw [upd_ne (ro_ne r3 r1 (by omega))]; exact h3, q3.mono k⟩, by rw [upd_ne (ro_ne r4 r1 (by omega))]; exact h4, r1, r2, r3, r4⟩
theorem DkAt.app (h : DkAt c r ρ H A D) {vs : List V} (hv : H A.a3 = some (.lst vs)) {i : Nat} {x : α} {v : V} {t : Addr} (ht : H t = some (.tup [.int (i : Nat), v])) (hx : c.R H x v) : DkAt c r ρ (upd H A.a3 (.lst (vs ++ [.ref t]))) A { D with wt := D.wt ++ [(i, x)] } := by
  obtain ⟨⟨v1, h1, q1⟩, ⟨v2, h2, q2⟩, ⟨v3, h3, q3⟩, h4, r1, r2, r3, r4⟩ := h
  rw [h3] at hv
  cases hv
  have k := tup_upd (ys := vs ++ [V.ref t]) h3
  exact ⟨⟨v1, by rw [upd_ne (ro_ne r1 r3 (by omega))]; exact h1, q1.mono k⟩, ⟨v2, by rw [upd_ne (ro_ne r2 r3 (by omega))]; exact h2, q2.mono k⟩, ⟨_, upd_same, All.snoc (c := cW c) (x := (i, x)) ⟨t, v, rfl, k _ _ ht, c.mono k hx⟩ (q3.mono k)⟩, by rw [upd_ne (ro_ne r4 r3 (by omega))]; exact h4, r1, r2, r3, r4⟩
/-- another list stands for the contents, the synced contents, the pending writes -/
theorem DkAt.new1 (h : DkAt c r ρ H A D) {q : Addr} {l : List α} {vs : List V} (hq : H q = some (.lst vs)) (rq : ρ q = r + 1) (ha : All c H l vs) : DkAt c r ρ H { A with a1 := q } { D with sh := l } := ⟨⟨vs, hq, ha⟩, h.sy, h.wt, h.ta, rq, h.r2, h.r3, h.r4⟩
theorem DkAt.new2 (h : DkAt c r ρ H A D) {q : Addr} {l : List α} {vs : List V} (hq : H q = some (.lst vs)) (rq : ρ q = r + 2) (ha : All c H l vs) : DkAt c r ρ H { A with a2 := q } { D with sy := l } := ⟨h.sh, ⟨vs, hq, ha⟩, h.wt, h.ta, h.r1, rq, h.r3, h.r4⟩
theorem DkAt.new3 (h : DkAt c r ρ H A D) {q : Addr} (hq : H q = some (.lst [])) (rq : ρ q = r + 3) : DkAt c r ρ H { A with a3 := q } { D with wt := [] } := ⟨h.sh, h.sy, ⟨[], hq, .nil⟩, h.ta, h.r1, h.r2, rq, h.r4⟩
theorem sd (r : Nat) {i : Nat} (h : i ≤ 4) : SD r (r + i) := ⟨Nat.le_add_right _ _, Nat.add_le_add_left h _⟩
theorem sdn (r : Nat) : ∀ i, i ≤ 4 → ¬ S0 (r + i) := fun _ _ z => z
/-- .. over what is neither a role of it -/
theorem DkAt.mv0 {ρ' : Ro} {H' : Hp} (h : DkAt c r ρ H A D) (m : Mv S0 ρ H ρ' H') : DkAt c r ρ' H' A D := h.mv m (sdn r)
/-- the disk's object is changed: its lists stand -/
theorem DkAt.own {d : Addr} {o : HO} (h : DkAt c r ρ H A D) (rd : ρ d = r) (ho : H d = some o) (no : ∀ xs, o ≠ .tup xs) (u : HO) : DkAt c r ρ (upd H d u) A D := by
  have m : Mv (fun n => n = r) ρ H ρ (upd H d u) := Mv.refl.wr ho no (.inr rd) u
  obtain ⟨⟨v1, h1, q1⟩, ⟨v2, h2, q2⟩, ⟨v3, h3, q3⟩, h4, r1, r2, r3, r4⟩ := h
  exact ⟨⟨v1, m.keeps h1 r1 (by omega), q1.mono m.tups⟩, ⟨v2, m.keeps h2 r2 (by omega), q2.mono m.tups⟩, ⟨v3, m.keeps h3 r3 (by omega), q3.mono m.tups⟩, m.keeps h4 r4 (by omega), r1, r2, r3, r4⟩
end
/-- a disk's object and lists while they change -/
structure DW (K : PySem.W.Frag) {α : Type} (c : Cell α) (r : Nat) (ρ0 : Ro) (H0 : Hp) (ρ : Ro) (H : Hp) (d dx : Addr) (fs : List (Str × V)) (A : DkL) (D : Dk α) : Prop where
  hd : H d = some (.ins (He.ga K "Disk") dx fs)
  rd : ρ d = r
  g : DkAt c r ρ H A D
  m : Mv (SD r) ρ0 H0 ρ H
section
variable {K : PySem.W.Frag} {α : Type} {c : Cell α} {r : Nat} {ρ0 ρ : Ro} {H0 H : Hp} {d dx : Addr} {fs : List (Str × V)} {A : DkL} {D : Dk α}
theorem DW.new (h : DW K c r ρ0 H0 ρ H d dx fs A D) {q : Addr} (hq : H q = none) (k : Nat) (o : HO) : DW K c r ρ0 H0 (rs ρ q k) (upd H q o) d dx fs A D :=
  ⟨(upd_ne (ne_of_none h.hd hq)).trans h.hd, (rs_ne (ne_of_none h.hd hq)).trans h.rd, h.g.mv0 (Mv.refl.new hq k o), h.m.new hq k o⟩
theorem DW.obj (h : DW K c r ρ0 H0 ρ H d dx fs A D) (fs' : List (Str × V)) : DW K c r ρ0 H0 ρ (upd H d (.ins (He.ga K "Disk") dx fs')) d dx fs' A D :=
  ⟨upd_same, h.rd, h.g.own h.rd h.hd (fun xs z => by cases z) _, h.m.wr h.hd (fun xs z => by cases z) (.inr (by rw [h.rd]; exact sd r (i := 0) (by decide))) _⟩
theorem DW.tal (h : DW K c r ρ0 H0 ρ H d dx fs A D) (a b e : Int) : DW K c r ρ0 H0 ρ (upd H A.a4 (.lst [.int a, .int b, .int e])) d dx fs A { D with tr := a, tw := b, ts := e } :=
  ⟨(upd_ne (ro_ne h.rd h.g.r4 (by omega))).trans h.hd, h.rd, h.g.tal a b e, h.m.wr h.g.ta (fun xs z => by cases z) (.inr (by rw [h.g.r4]; exact sd r (by decide))) _⟩
theorem DW.put (h : DW K c r ρ0 H0 ρ H d dx fs A D) {vs : List V} (hv : H A.a1 = some (.lst vs)) (i : Nat) {x : α} {v : V} (hx : c.R H x v) : DW K c r ρ0 H0 ρ (upd H A.a1 (.lst (vs.set i v))) d dx fs A { D with sh := D.sh.set i x } :=
  ⟨(upd_ne (ro_ne h.rd h.g.r1 (by omega))).trans h.hd, h.rd, h.g.put hv i hx, h.m.wr hv (fun xs z => by cases z) (.inr (by rw [h.g.r1]; exact sd r (by decide))) _⟩
theorem DW.app (h : DW K c r ρ0 H0 ρ H d dx fs A D) {vs : List V} (hv : H A.a3 = some (.lst vs)) {i : Nat} {x : α} {v : V} {t : Addr} (ht : H t = some (.tup [.int (i : Nat), v])) (hx : c.R H x v) : DW K c r ρ0 H0 ρ (upd H A.a3 (.lst (vs ++ [.ref t]))) d dx fs A { D with wt := D.wt ++ [(i, x)] } :=
  ⟨(upd_ne (ro_ne h.rd h.g.r3 (by omega))).trans h.hd, h.rd, h.g.app hv ht hx, h.m.wr hv (fun xs z => by cases z) (.inr (by rw [h.g.r3]; exact sd r (by decide))) _⟩
end
theorem ixn {n j : Nat} (hj : j < n) : ixN n (j : Int) = some j := by
  unfold ixN
  rw [if_pos (by omega), if_pos (by omega)]
  simp
theorem rep_flat {α : Type} (x : α) : ∀ n, (List.replicate n [x]).flatten = List.replicate n x
  | 0 => rfl
  | n + 1 => by rw [List.replicate_succ, List.flatten_cons, rep_flat x n]; rfl
def Dk.new {α : Type} (n : Nat) (x : α) : Dk α := ⟨List.replicate n x, List.replicate n x, [], 0, 0, 0⟩
theorem all_rep {α : Type} {c : Cell α} {H : Hp} {x : α} {v : V} (h : c.R H x v) : ∀ n, All c H (List.replicate n x) (List.replicate n v)
  | 0 => .nil
  | n + 1 => .cons h (all_rep h n)
end Kb
set_option Elab.async false
set_option linter.all false
set_option maxRecDepth 100000
set_option maxHeartbeats 4000000
namespace Kb
open PySem PySem.Spec PyProof.Rows L2
section
variable {P : Program} {w : World} {K : PySem.W.Frag} {mg : Str → Option Value} {base : Heap}
/-! ### numbers -/
def sp_is_int : Sp := Sp1 fun a H Q => ∃ i, a = .int i ∧ Q (.bl true) H
theorem sc_P_is_int : FnScope ["value"] ["value"] (defScope s_P_is_int) := ⟨rfl, rfl, rfl, by decide +kernel, rfl, by decide +kernel, by decide +kernel⟩
theorem c_P_is_int (T : Txt K mg) : C8.Cal P w K mg base 1 "is_int" (sp_is_int) [] := by
  refine cal_of T.F_P_is_int T.g_is_int sc_P_is_int len1 (fun _ _ _ _ _ _ us hl => match us, hl with | [_], _ => rfl) (fun cdv A outer s H vs Q E hr h => ?_)
  obtain ⟨a, rfl, i, rfl, k⟩ := h
  refine ⟨_, pss_one (ps_ret (pe_and (pe_callB call_isi (by rfl) T.f_isinstance (by decide +kernel) (pa_cons (pv 0) (pa_cons (pe_bltn (v := .ty "int") (u := .type "int") rfl T.f_int (by decide +kernel) rfl) pa_nil))) (pe_one (pe_not (pe_callB call_isi (by rfl) T.f_isinstance (by decide +kernel) (pa_cons (pv 0) (pa_cons (pe_bltn (v := .ty "bool") (u := .type "bool") rfl T.f_bool (by decide +kernel) rfl) pa_nil))))))), ?_⟩
  refine ⟨_, rfl, _, _, .type "int", _, true, rfl, .ty "int", .base (.int i), kit_ty (by decide +kernel), true, rfl, iteT ?_⟩
  exact ⟨_, rfl, _, _, .type "int", _, false, rfl, .ty "bool", .base (.int i), kit_ty (by decide +kernel), false, rfl, k⟩
def sp_is_int_in : Sp := Sp3 fun a b c H Q => ∃ i lo hi : Int, a = .int i ∧ b = .int lo ∧ c = .int hi ∧ Q (.bl (decide (lo ≤ i) && decide (i ≤ hi))) H
theorem sc_P_is_int_in : FnScope ["value", "low", "high"] ["value", "low", "high"] (defScope s_P_is_int_in) := ⟨rfl, rfl, rfl, by decide +kernel, rfl, by decide +kernel, by decide +kernel⟩
theorem c_P_is_int_in (T : Txt K mg) : C8.Cal P w K mg base 2 "is_int_in" (sp_is_int_in) [] := by
  refine cal_of T.F_P_is_int_in T.g_is_int_in sc_P_is_int_in len3 (fun _ _ _ _ _ _ us hl => match us, hl with | [_, _, _], _ => rfl) (fun cdv A outer s H vs Q E hr h => ?_)
  obtain ⟨a, b, c, rfl, i, lo, hi, rfl, rfl, rfl, k⟩ := h
  refine ⟨_, pss_one (ps_ret (pe_and (C8.pe_c (c_P_is_int T) hr (by decide) rfl (pa_cons (pv 0) pa_nil)) (pe_one (pe_chain op_le op_le (pv 1) (pv 0) (pv 2))))), ?_⟩
  refine ⟨_, rfl, _, rfl, i, rfl, true, rfl, iteT ?_⟩
  refine ⟨_, rfl, _, rfl, _, _, rfl, rfl, _, rfl, ?_⟩
  by_cases h1 : lo ≤ i
  · rw [decide_eq_true h1] at k ⊢
    exact iteT ⟨_, rfl, _, _, rfl, rfl, by simpa using k⟩
  · rw [decide_eq_false h1] at k ⊢
    exact iteF (by simpa using k)
theorem in_true {i lo hi : Int} (h1 : lo ≤ i) (h2 : i ≤ hi) : (decide (lo ≤ i) && decide (i ≤ hi)) = true := by
  rw [decide_eq_true h1, decide_eq_true h2]
  rfl
/-- of the empty tuple alone -/
def sp_asc : Sp := Sp2 fun a b H Q => ∃ (t : Addr) (n : Int) (ρ : Ro), a = .ref t ∧ b = .int n ∧ H t = some (.tup []) ∧ ∀ (ρ' : Ro) (H' : Hp), Mv S0 ρ H ρ' H' → Q (.bl true) H'
theorem sc_P_are_ascending : FnScope ["value", "many", "one", "other", "number"] ["value", "many"] (defScope s_P_are_ascending) := ⟨rfl, rfl, rfl, by decide +kernel, rfl, by decide +kernel, by decide +kernel⟩
theorem c_P_are_ascending (T : Txt K mg) : C8.Cal P w K mg base 3 "are_ascending" (sp_asc) [] := by
  refine cal_of T.F_P_are_ascending T.g_are_ascending sc_P_are_ascending len2 (fun _ _ _ _ _ _ us hl => match us, hl with | [_, _], _ => rfl) (fun cdv A outer s H vs Q E hr h => ?_)
  obtain ⟨a, b, rfl, t, n, ρ, rfl, rfl, ht, k⟩ := h
  refine ⟨_, pss_cons (ps_if (PW.pt (pw_or (pt_not (pt_val (pe_callB call_isi (by rfl) T.f_isinstance (by decide +kernel) (pa_cons (pv 0) (pa_cons (pe_bltn (v := .ty "tuple") (u := .type "tuple") rfl T.f_tuple (by decide +kernel) rfl) pa_nil))))) (pw_or1 (pt_not (pt_val (pe_callB (cr_all rfl) (by rfl) T.f_all (by decide +kernel) (pa_cons (pe_lc (own := [("number", 4)]) (by rfl) sc_P_are_ascending.nd (g := gName 4) (pi_tup (pv 0)) (blkOk_by (own := [("number", 4)]) (N := ["value", "many", "one", "other", "number"]) (sc := defScope s_P_are_ascending) (by decide +kernel)) (fun _ _ _ _ _ => pg_name (i := 4) sc_P_are_ascending.nd rfl (.inl rfl) (.inr rfl)) (fun _ _ _ _ _ => pts_nil) (fun _ _ _ _ _ => C8.pe_c (c_P_is_int_in T) hr (by decide) rfl (pa_cons (pv 4) (pa_cons (pe_int) (pa_cons (pe_op op_sub (pv 1) (pe_int)) pa_nil))))) pa_nil))))))) (pss_one (ps_ret (pe_bl))) (pss_nil))
      (pss_one (ps_ret (pe_callB (cr_all rfl) (by rfl) T.f_all (by decide +kernel) (pa_cons (pe_lc (own := [("one", 2), ("other", 3)]) (by rfl) sc_P_are_ascending.nd (g := gTup K 2 (gCons (gName 2) (gCons (gName 3) (gNil)))) (RZ.pi_zipA (by rfl) T.f_zip (pa_cons (pv 0) (pa_cons (pe_slice sl_tupA (pv 0) (po_some (pe_int)) (po_none)) pa_nil))) (blkOk_by (own := [("one", 2), ("other", 3)]) (N := ["value", "many", "one", "other", "number"]) (sc := defScope s_P_are_ascending) (by decide +kernel)) (fun _ _ _ _ _ => pg_tup (n := 2) rfl (pgs_cons (pg_name (i := 2) sc_P_are_ascending.nd rfl (.inl rfl) (.inr rfl)) (pgs_cons (pg_name (i := 3) sc_P_are_ascending.nd rfl (.inl rfl) (.inr rfl)) pgs_nil))) (fun _ _ _ _ _ => pts_nil) (fun _ _ _ _ _ => pe_cmpR op_lt (pv 2) (pv 3) (nomark _))) pa_nil)))), ?_⟩
  refine ⟨_, rfl, _, _, .type "tuple", _, true, rfl, .ty "tuple", .base (.tup ht), kit_ty (by decide +kernel), true, rfl, iteF ?_⟩
  refine ⟨_, rfl, t, rfl, ⟨[], SqT.of ht⟩, fun D hD => lc_gen (ρ := ρ) (walk_tup (xs := [])) (by decide) cV (fun _ => none) (fun ρ' H' m => SqT.of (m.tups _ _ ht)) (fun i x ρ' H' H'' hi => absurd hi (Nat.not_lt_zero _)) hD fun ρ' H' ys m _ hy ha => ?_⟩
  cases ha
  refine ⟨D, [], rfl, SqL.of hy, true, rfl, iteF ?_⟩
  have ht' := m.tups _ _ ht
  refine ⟨_, rfl, _, rfl, _, rfl, t, [], rfl, SqT.of ht', fun _ => ?_, fun z => absurd ⟨rfl, rfl⟩ z⟩
  refine ⟨t, t, [], [], rfl, .inr ⟨SqT.of ht', SqT.of ht', fun D2 hD2 => lc_gen (ρ := ρ') (n := 0) (G := fun H => SqT K H t []) (Y := fun _ _ _ _ => True) ⟨fun i _ hi _ => absurd hi (Nat.not_lt_zero _), fun H h => ⟨[], [], h, h, .inl (Nat.le_refl _)⟩, fun i _ _ _ hi _ _ => absurd hi (Nat.not_lt_zero _)⟩ (by decide) cV (fun _ => none)
    (fun ρ2 H2 m2 => SqT.of (m2.tups _ _ ht')) (fun i x ρ' H' H'' hi => absurd hi (Nat.not_lt_zero _)) hD2 fun ρ2 H2 ys2 m2 _ hy2 ha2 => ?_⟩⟩
  cases ha2
  exact ⟨D2, [], rfl, SqL.of hy2, k ρ2 H2 (m.trans m2)⟩

/-! ### Disk -/
def sp_D_check (K : PySem.W.Frag) : Sp := Sp2 fun a b H Q => ∃ (d dx : Addr) (A : DkL) (i : Int) (xs : List V), a = .ref d ∧ b = .int i ∧ H d = some (.ins (He.ga K "Disk") dx (diskF A)) ∧ H A.a1 = some (.lst xs) ∧ 0 ≤ i ∧ i < xs.length ∧ Q .non H
theorem sc_D_check : FnScope ["self", "cell"] ["self", "cell"] (defScope s_D_check) := ⟨rfl, rfl, rfl, by decide +kernel, rfl, by decide +kernel, by decide +kernel⟩
theorem m_D_check (T : Txt K mg) : C8.Met P w K mg base 3 (He.ga K "Disk") "check" (sp_D_check K) [] := by
  refine met_of T.F_D_check T.cl_Disk T.mt_Disk_check sc_D_check len2 (fun _ _ _ _ _ _ us hl => match us, hl with | [_, _], _ => rfl) (fun cdv A outer s H vs Q E hr h => ?_)
  obtain ⟨a, b, rfl, d, dx, A, i, xs, rfl, rfl, hd, h1, i0, i1, k⟩ := h
  refine ⟨_, pss_one (ps_if (pt_not (pt_val (C8.pe_c (c_P_is_int_in T) hr (by decide) rfl (pa_cons (pv 1) (pa_cons (pe_int) (pa_cons (pe_op op_sub (pe_callB call_len_seq (by rfl) T.f_len (by decide +kernel) (pa_cons (pe_fld (pv 0) rfl) pa_nil)) (pe_int)) pa_nil)))))) (pss_one (ps_never)) (pss_nil)), ?_⟩
  refine ⟨_, rfl, _, rfl, d, _, dx, _, _, rfl, hd, T.cl_Disk, T.na_Disk_shown, rfl, _, _, rfl, .inl (SqL.of h1), _, _, rfl, rfl, ?_⟩
  refine ⟨_, _, _, rfl, _, _, _, rfl, rfl, rfl, _, rfl, ite_not (in_true i0 (by omega)) k⟩
def sp_D_read (K : PySem.W.Frag) : Sp := Sp2 fun a b H Q => ∃ (α : Type) (c : Cell α) (r : Nat) (ρ : Ro) (d : Addr) (D : Dk α) (i : Nat) (x : α), a = .ref d ∧ b = .int (i : Int) ∧ DiskAt K c r ρ H d D ∧ D.sh[i]? = some x ∧
  ∀ (H' : Hp) (v : V), DiskAt K c r ρ H' d D.read → c.R H' x v → Mv (SD r) ρ H ρ H' → Q v H'
theorem sc_D_read : FnScope ["self", "cell"] ["self", "cell"] (defScope s_D_read) := ⟨rfl, rfl, rfl, by decide +kernel, rfl, by decide +kernel, by decide +kernel⟩
theorem m_D_read (T : Txt K mg) : C8.Met P w K mg base 4 (He.ga K "Disk") "read" (sp_D_read K) [] := by
  refine met_of T.F_D_read T.cl_Disk T.mt_Disk_read sc_D_read len2 (fun _ _ _ _ _ _ us hl => match us, hl with | [_, _], _ => rfl) (fun cdv A outer s H vs Q E hr h => ?_)
  obtain ⟨a, b, rfl, α, c, r, ρ, d, D, i, x, rfl, rfl, ⟨dx, A, hd, rd, h⟩, hx, k⟩ := h
  obtain ⟨vs, h1, q1⟩ := h.sh
  obtain ⟨v, hv, rv⟩ := q1.get hx
  have hi := (List.getElem?_eq_some_iff.mp hv).1
  have n4 : d ≠ A.a4 := ro_ne rd h.r4 (by omega)
  have n1 : A.a1 ≠ A.a4 := ro_ne h.r1 h.r4 (by omega)
  have m : Mv (SD r) ρ H ρ (upd H A.a4 (.lst [.int (D.tr + 1), .int D.tw, .int D.ts])) := Mv.refl.wr h.ta (fun xs z => by cases z) (.inr (by rw [h.r4]; exact sd r (by decide))) _
  refine ⟨_, pss_cons (ps_expr (C8.pe_mt (m_D_check T) hr (by decide) (pv 0) (pa_cons (pv 1) pa_nil)))
      (pss_cons (ps_augS (pe_fld (pv 0) rfl) (pe_int) pget_list (pe_int) ip_add set_list)
      (pss_one (ps_ret (pe_ix ix_list (pe_fld (pv 0) rfl) (pv 1) (fun _ _ => rfl))))), ?_⟩
  refine ⟨_, rfl, d, dx, _, rfl, hd, rfl, _, rfl, ?_⟩
  refine ⟨_, _, rfl, d, dx, A, _, vs, rfl, rfl, hd, h1, by omega, by omega, ?_⟩
  refine ⟨_, rfl, d, _, dx, _, _, rfl, hd, T.cl_Disk, T.na_Disk_tally, rfl, _, _, _, _, rfl, rfl, SqL.of h.ta, rfl, _, _, rfl, rfl, A.a4, _, _, 0, rfl, rfl, h.ta, rfl, ?_⟩
  refine ⟨_, rfl, d, _, dx, _, _, rfl, (upd_ne n4).trans hd, T.cl_Disk, T.na_Disk_shown, rfl, _, rfl, _, _, _, _, rfl, rfl, SqL.of ((upd_ne n1).trans h1), atI_nat hv, ?_⟩
  exact k _ v ⟨dx, A, (upd_ne n4).trans hd, rd, h.tal _ _ _⟩ (c.mono m.tups rv) m
def sp_D_write (K : PySem.W.Frag) : Sp := Sp3 fun a b e H Q => ∃ (α : Type) (c : Cell α) (r : Nat) (ρ : Ro) (d : Addr) (D : Dk α) (i : Nat) (x : α), a = .ref d ∧ b = .int (i : Int) ∧ DiskAt K c r ρ H d D ∧ i < D.sh.length ∧ c.R H x e ∧ D.wt.length < 1000000 ∧
  ∀ (ρ' : Ro) (H' : Hp), DiskAt K c r ρ' H' d (D.write i x) → Mv (SD r) ρ H ρ' H' → Q .non H'
theorem sc_D_write : FnScope ["self", "cell", "content"] ["self", "cell", "content"] (defScope s_D_write) := ⟨rfl, rfl, rfl, by decide +kernel, rfl, by decide +kernel, by decide +kernel⟩
theorem m_D_write (T : Txt K mg) : C8.Met P w K mg base 4 (He.ga K "Disk") "write" (sp_D_write K) [] := by
  refine met_of T.F_D_write T.cl_Disk T.mt_Disk_write sc_D_write len3 (fun _ _ _ _ _ _ us hl => match us, hl with | [_, _, _], _ => rfl) (fun cdv A outer s H vs Q E hr h => ?_)
  obtain ⟨a, b, e, rfl, α, c, r, ρ, d, D, i, x, rfl, rfl, ⟨dx, A, hd, rd, h⟩, hx, he, hw, k⟩ := h
  obtain ⟨vs, h1, q1⟩ := h.sh
  have hl := q1.len
  have n1 : A.a1 ≠ A.a4 := ro_ne h.r1 h.r4 (by omega)
  have w0 : DW K c r ρ H ρ H d dx _ A D := ⟨hd, rd, h, Mv.refl⟩
  have w1 := w0.tal D.tr (D.tw + 1) D.ts
  have h1' := (upd_ne (o := HO.lst [.int D.tr, .int (D.tw + 1), .int D.ts]) n1).trans h1
  have w2 := w1.put h1' i (c.mono w1.m.tups he)
  obtain ⟨ws, h3, q3⟩ := w2.g.wt
  have hl3 : D.wt.length = ws.length := q3.len
  refine ⟨_, pss_cons (ps_expr (C8.pe_mt (m_D_check T) hr (by decide) (pv 0) (pa_cons (pv 1) pa_nil)))
      (pss_cons (ps_augS (pe_fld (pv 0) rfl) (pe_int) pget_list (pe_int) ip_add set_list)
      (pss_cons (ps_asg (pv 2) (pg_sub (pe_fld (pv 0) rfl) (pv 1) set_list))
      (pss_one (ps_expr (pe_bm PySem.F.plainAttrs_list PySem.F.slot_list_append PySem.F.type_list_append mt_append (pe_fld (pv 0) rfl) (pa_cons (pe_tup (pa_cons (pv 1) (pa_cons (pv 2) pa_nil))) pa_nil)))))), ?_⟩
  refine ⟨_, rfl, d, dx, _, rfl, hd, rfl, _, rfl, ?_⟩
  refine ⟨_, _, rfl, d, dx, A, _, vs, rfl, rfl, hd, h1, by omega, by omega, ?_⟩
  refine ⟨_, rfl, d, _, dx, _, _, rfl, hd, T.cl_Disk, T.na_Disk_tally, rfl, _, _, _, _, rfl, rfl, SqL.of h.ta, rfl, _, _, rfl, rfl, A.a4, _, _, 1, rfl, rfl, h.ta, rfl, ?_⟩
  refine ⟨_, rfl, _, rfl, d, _, dx, _, _, rfl, w1.hd, T.cl_Disk, T.na_Disk_shown, rfl, _, rfl, A.a1, vs, _, i, rfl, rfl, h1', ixn (by omega), ?_⟩
  refine ⟨_, rfl, d, _, dx, _, _, rfl, w2.hd, T.cl_Disk, T.na_Disk_waiting, rfl, .inl ⟨rfl, _, SqL.of h3⟩, _, rfl, _, rfl, (show (2 : Nat) ≤ sizeLine by decide), fun t ht => ?_⟩
  have w3 := w2.new ht 0 (.tup [.int (i : Int), e])
  have h3' := (upd_ne (o := HO.tup [.int (i : Int), e]) (ne_of_none h3 ht)).trans h3
  have w4 := w3.app h3' upd_same (c.mono w3.m.tups he)
  refine ⟨_, _, _, rfl, rfl, h3', by unfold sizeLine; omega, ?_⟩
  exact k _ _ ⟨dx, A, w4.hd, w4.rd, w4.g⟩ w4.m
def sp_D_sync (K : PySem.W.Frag) : Sp := Sp1 fun a H Q => ∃ (α : Type) (c : Cell α) (r : Nat) (ρ : Ro) (d : Addr) (D : Dk α), a = .ref d ∧ DiskAt K c r ρ H d D ∧
  ∀ (ρ' : Ro) (H' : Hp), DiskAt K c r ρ' H' d D.sync → Mv (SD r) ρ H ρ' H' → Q .non H'
theorem sc_D_sync : FnScope ["self"] ["self"] (defScope s_D_sync) := ⟨rfl, rfl, rfl, by decide +kernel, rfl, by decide +kernel, by decide +kernel⟩
theorem m_D_sync (T : Txt K mg) : C8.Met P w K mg base 1 (He.ga K "Disk") "sync" (sp_D_sync K) [] := by
  refine met_of T.F_D_sync T.cl_Disk T.mt_Disk_sync sc_D_sync len1 (fun _ _ _ _ _ _ us hl => match us, hl with | [_], _ => rfl) (fun cdv A outer s H vs Q E hr h => ?_)
  obtain ⟨a, rfl, α, c, r, ρ, d, D, rfl, ⟨dx, A, hd, rd, h⟩, k⟩ := h
  obtain ⟨vs, h1, q1⟩ := h.sh
  have n1 : A.a1 ≠ A.a4 := ro_ne h.r1 h.r4 (by omega)
  have w0 : DW K c r ρ H ρ H d dx _ A D := ⟨hd, rd, h, Mv.refl⟩
  have w1 := w0.tal D.tr D.tw (D.ts + 1)
  have h1' := (upd_ne (o := HO.lst [.int D.tr, .int D.tw, .int (D.ts + 1)]) n1).trans h1
  refine ⟨_, pss_cons (ps_augS (pe_fld (pv 0) rfl) (pe_int) pget_list (pe_int) ip_add set_list)
      (pss_cons (ps_fld (pv 0) (pe_callTy call_list_of (by rfl) T.f_list (by decide +kernel) (pa_cons (pe_fld (pv 0) rfl) pa_nil)) rfl)
      (pss_one (ps_fld (pv 0) (pe_lst (pa_nil)) rfl))), ?_⟩
  refine ⟨_, rfl, d, _, dx, _, _, rfl, hd, T.cl_Disk, T.na_Disk_tally, rfl, _, _, _, _, rfl, rfl, SqL.of h.ta, rfl, _, _, rfl, rfl, A.a4, _, _, 2, rfl, rfl, h.ta, rfl, ?_⟩
  refine ⟨_, rfl, d, _, dx, _, _, rfl, w1.hd, T.cl_Disk, T.na_Disk_shown, rfl, A.a1, vs, rfl, .inl (SqL.of h1'), fun q hq => ?_⟩
  have w2 := w1.new hq (r + 2) (.lst vs)
  refine ⟨_, rfl, d, _, dx, _, rfl, w2.hd, T.cl_Disk, T.na_Disk_synced, (show (4 : Nat) < 1000 by decide), ?_⟩
  have g2 := w2.g.new2 upd_same rs_same (q1.mono w2.m.tups)
  have w3 := (DW.mk w2.hd w2.rd g2 w2.m).obj (putF "synced" (.ref q) (diskF A))
  refine ⟨by decide, fun q2 hq2 => ?_⟩
  have w4 := w3.new hq2 (r + 3) (.lst [])
  refine ⟨_, rfl, d, _, dx, _, rfl, w4.hd, T.cl_Disk, T.na_Disk_waiting, (show (4 : Nat) < 1000 by decide), ?_⟩
  have g4 := w4.g.new3 upd_same rs_same
  have w5 := (DW.mk w4.hd w4.rd g4 w4.m).obj (putF "waiting" (.ref q2) (putF "synced" (.ref q) (diskF A)))
  exact k _ _ ⟨dx, { A with a2 := q, a3 := q2 }, w5.hd, w5.rd, w5.g⟩ w5.m
/-- with nothing kept -/
def sp_D_after (K : PySem.W.Frag) : Sp := Sp2 fun a b H Q => ∃ (α : Type) (c : Cell α) (r : Nat) (ρ : Ro) (d t : Addr) (D : Dk α), a = .ref d ∧ b = .ref t ∧ H t = some (.tup []) ∧ DiskAt K c r ρ H d D ∧
  ∀ q ys, H q = none → All c H D.sy ys → Q (.ref q) (upd H q (.lst ys))
theorem sc_D_after_failure : FnScope ["self", "kept", "found", "number", "cell", "content"] ["self", "kept"] (defScope s_D_after_failure) := ⟨rfl, rfl, rfl, by decide +kernel, rfl, by decide +kernel, by decide +kernel⟩
theorem m_D_after_failure (T : Txt K mg) : C8.Met P w K mg base 1 (He.ga K "Disk") "after_failure" (sp_D_after K) [] := by
  refine met_of T.F_D_after_failure T.cl_Disk T.mt_Disk_after_failure sc_D_after_failure len2 (fun _ _ _ _ _ _ us hl => match us, hl with | [_, _], _ => rfl) (fun cdv A outer s H vs Q E hr h => ?_)
  obtain ⟨a, b, rfl, α, c, r, ρ, d, t, D, rfl, rfl, ht, ⟨dx, A, hd, rd, h⟩, k⟩ := h
  obtain ⟨vs, h2, q2⟩ := h.sy
  refine ⟨_, pss_cons (ps_set (i := 2) sc_D_after_failure.nd rfl (.inl rfl) (pe_callTy call_list_of (by rfl) T.f_list (by decide +kernel) (pa_cons (pe_fld (pv 0) rfl) pa_nil)))
      (pss_cons (ps_for PassesOwn.never rfl (pi_tup (pv 1)) (pg_name (i := 3) sc_D_after_failure.nd rfl (.inl rfl)) (pss_cons (ps_asg (pe_ix ix_list (pe_fld (pv 0) rfl) (pv 3) (fun _ _ => rfl)) (pg_tup (n := 2) rfl (pgs_cons (pg_name (i := 4) sc_D_after_failure.nd rfl (.inl rfl)) (pgs_cons (pg_name (i := 5) sc_D_after_failure.nd rfl (.inl rfl)) pgs_nil))))
      (pss_one (ps_asg (pv 5) (pg_sub (pv 2) (pv 4) set_list)))))
      (pss_one (ps_ret (pv 2)))), ?_⟩
  refine ⟨_, rfl, d, _, dx, _, _, rfl, hd, T.cl_Disk, T.na_Disk_synced, rfl, A.a2, vs, rfl, .inl (SqL.of h2), fun q hq => ?_⟩
  have ht' : upd H q (.lst vs) t = some (.tup []) := (upd_ne (ne_of_none ht hq)).trans ht
  refine ⟨_, rfl, t, rfl, ⟨[], SqT.of ht'⟩, ?_⟩
  refine for_it (walk_tup (xs := [])) (fun _ σ H' => σ = (start ["self", "kept", "found", "number", "cell", "content"] [.ref d, .ref t]).set 2 (some (.ref q)) ∧ H' = upd H q (.lst vs)) ⟨rfl, rfl⟩ (fun i σ H' _ ⟨_, e⟩ => by rw [e]; exact SqT.of ht') (fun i x σ H' H'' hi => absurd hi (Nat.not_lt_zero _)) fun σ H' ⟨e1, e2⟩ => ?_
  subst e1
  subst e2
  exact ⟨_, rfl, k q vs hq q2⟩
def sp_D_fail (K : PySem.W.Frag) : Sp := Sp2 fun a b H Q => ∃ (α : Type) (c : Cell α) (r : Nat) (ρ : Ro) (d t : Addr) (D : Dk α), a = .ref d ∧ b = .ref t ∧ H t = some (.tup []) ∧ DiskAt K c r ρ H d D ∧
  ∀ (ρ' : Ro) (H' : Hp), DiskAt K c r ρ' H' d D.fail0 → Mv (SD r) ρ H ρ' H' → Q .non H'
theorem sc_D_fail : FnScope ["self", "kept"] ["self", "kept"] (defScope s_D_fail) := ⟨rfl, rfl, rfl, by decide +kernel, rfl, by decide +kernel, by decide +kernel⟩
theorem m_D_fail (T : Txt K mg) : C8.Met P w K mg base 4 (He.ga K "Disk") "fail" (sp_D_fail K) [] := by
  refine met_of T.F_D_fail T.cl_Disk T.mt_Disk_fail sc_D_fail len2 (fun _ _ _ _ _ _ us hl => match us, hl with | [_, _], _ => rfl) (fun cdv A outer s H vs Q E hr h => ?_)
  obtain ⟨a, b, rfl, α, c, r, ρ, d, t, D, rfl, rfl, ht, ⟨dx, A, hd, rd, h⟩, k⟩ := h
  obtain ⟨ws, h3, q3⟩ := h.wt
  refine ⟨_, pss_cons (ps_if (pt_not (pt_val (C8.pe_c (c_P_are_ascending T) hr (by decide) rfl (pa_cons (pv 1) (pa_cons (pe_callB call_len_seq (by rfl) T.f_len (by decide +kernel) (pa_cons (pe_fld (pv 0) rfl) pa_nil)) pa_nil))))) (pss_one (ps_never)) (pss_nil))
      (pss_cons (ps_fld (pv 0) (C8.pe_mt (m_D_after_failure T) hr (by decide) (pv 0) (pa_cons (pv 1) pa_nil)) rfl)
      (pss_cons (ps_fld (pv 0) (pe_callTy call_list_of (by rfl) T.f_list (by decide +kernel) (pa_cons (pe_fld (pv 0) rfl) pa_nil)) rfl)
      (pss_one (ps_fld (pv 0) (pe_lst (pa_nil)) rfl)))), ?_⟩
  refine ⟨_, rfl, _, rfl, d, _, dx, _, _, rfl, hd, T.cl_Disk, T.na_Disk_waiting, rfl, A.a3, ws, rfl, .inl (SqL.of h3), ?_⟩
  refine ⟨_, _, rfl, t, _, ρ, rfl, rfl, ht, fun ρ1 H1 m1 => ⟨true, rfl, iteF ?_⟩⟩
  have w1 : DW K c r ρ H ρ1 H1 d dx _ A D := ⟨m1.at0 hd, m1.ro hd rd, h.mv0 m1, m1.mono fun n z => z.elim⟩
  refine ⟨_, rfl, d, dx, _, rfl, w1.hd, rfl, _, rfl, ?_⟩
  refine ⟨_, _, rfl, α, c, r, ρ1, d, t, D, rfl, rfl, m1.tups _ _ ht, ⟨dx, A, w1.hd, w1.rd, w1.g⟩, fun q ys hq hy => ?_⟩
  have w2 := w1.new hq (r + 2) (.lst ys)
  refine ⟨_, rfl, d, _, dx, _, rfl, w2.hd, T.cl_Disk, T.na_Disk_synced, (show (4 : Nat) < 1000 by decide), ?_⟩
  have hy2 := hy.mono (Mv.refl (S := S0) (ρ := ρ1).new hq 0 (.lst ys)).tups
  have g2 := w2.g.new2 upd_same rs_same hy2
  have w3 := (DW.mk w2.hd w2.rd g2 w2.m).obj (putF "synced" (.ref q) (diskF A))
  obtain ⟨ys3, h4, q4⟩ := w3.g.sy
  refine ⟨_, rfl, d, _, dx, _, _, rfl, w3.hd, T.cl_Disk, T.na_Disk_synced, rfl, q, ys3, rfl, .inl (SqL.of h4), fun l hl => ?_⟩
  have w4 := w3.new hl (r + 1) (.lst ys3)
  refine ⟨_, rfl, d, _, dx, _, rfl, w4.hd, T.cl_Disk, T.na_Disk_shown, (show (4 : Nat) < 1000 by decide), ?_⟩
  have g4 := w4.g.new1 (l := D.sy) upd_same rs_same (q4.mono (Mv.refl (S := S0) (ρ := ρ1).new hl 0 (.lst ys3)).tups)
  have w5 := (DW.mk w4.hd w4.rd g4 w4.m).obj (putF "shown" (.ref l) (putF "synced" (.ref q) (diskF A)))
  refine ⟨by decide, fun q2 hq2 => ?_⟩
  have w6 := w5.new hq2 (r + 3) (.lst [])
  refine ⟨_, rfl, d, _, dx, _, rfl, w6.hd, T.cl_Disk, T.na_Disk_waiting, (show (4 : Nat) < 1000 by decide), ?_⟩
  have g6 := w6.g.new3 upd_same rs_same
  have w7 := (DW.mk w6.hd w6.rd g6 w6.m).obj (putF "waiting" (.ref q2) (putF "shown" (.ref l) (putF "synced" (.ref q) (diskF A))))
  exact k _ _ ⟨dx, { A with a1 := l, a2 := q, a3 := q2 }, w7.hd, w7.rd, w7.g⟩ w7.m
def sp_D_pending (K : PySem.W.Frag) : Sp := Sp1 fun a H Q => ∃ (α : Type) (c : Cell α) (r : Nat) (ρ : Ro) (d : Addr) (D : Dk α), a = .ref d ∧ DiskAt K c r ρ H d D ∧
  ∀ q ys, H q = none → All (cW c) H D.wt ys → Q (.ref q) (upd H q (.lst ys))
theorem sc_D_pending : FnScope ["self"] ["self"] (defScope s_D_pending) := ⟨rfl, rfl, rfl, by decide +kernel, rfl, by decide +kernel, by decide +kernel⟩
theorem p_D_pending (T : Txt K mg) : Pro P w K mg base 1 (He.ga K "Disk") "pending" (sp_D_pending K) := by
  refine pro_of T.F_D_pending T.cl_Disk T.pr_Disk_pending sc_D_pending len1 (fun _ _ _ _ _ _ us hl => match us, hl with | [_], _ => rfl) (fun cdv A outer s H vs Q E hr h => ?_)
  obtain ⟨a, rfl, α, c, r, ρ, d, D, rfl, ⟨dx, A, hd, rd, h⟩, k⟩ := h
  obtain ⟨ws, h3, q3⟩ := h.wt
  refine ⟨_, pss_one (ps_ret (pe_callTy call_list_of (by rfl) T.f_list (by decide +kernel) (pa_cons (pe_fld (pv 0) rfl) pa_nil))), ?_⟩
  exact ⟨_, rfl, d, _, dx, _, _, rfl, hd, T.cl_Disk, T.na_Disk_waiting, rfl, A.a3, ws, rfl, .inl (SqL.of h3), fun q hq => k q ws hq q3⟩
def sp_D_init (K : PySem.W.Frag) : Sp := Sp3 fun a b e H Q => ∃ (α : Type) (c : Cell α) (r : Nat) (ρ : Ro) (d dx : Addr) (n : Nat) (x : α), a = .ref d ∧ b = .int (n : Int) ∧ c.R H x e ∧ H d = some (.ins (He.ga K "Disk") dx []) ∧ ρ d = r ∧ 1 ≤ n ∧ n ≤ 64 ∧
  ∀ (ρ' : Ro) (H' : Hp), DiskAt K c r ρ' H' d (Dk.new n x) → Mv (SD r) ρ H ρ' H' → Q .non H'
theorem sc_D_init : FnScope ["self", "cells", "content"] ["self", "cells", "content"] (defScope s_D_init) := ⟨rfl, rfl, rfl, by decide +kernel, rfl, by decide +kernel, by decide +kernel⟩
theorem f_D_init (T : Txt K mg) : FnOk P w K mg base CX0 3 (He.ma K (He.ga K "Disk") "__init__") (fdOf K (He.ma K (He.ga K "Disk") "__init__")) ["self", "cells", "content"] ((sp_D_init K)) := by
  refine fn_ok T.F_D_init sc_D_init len3 (fun cdv A outer s H vs Q E hr h => ?_)
  obtain ⟨a, b, e, rfl, α, c, r, ρ, d, dx, n, x, rfl, rfl, he, hd, rd, n1, n64, k⟩ := h
  refine ⟨_, pss_cons (ps_if (pt_not (pt_val (C8.pe_c (c_P_is_int_in T) hr (by decide) rfl (pa_cons (pv 1) (pa_cons (pe_int) (pa_cons (C8.pe_gc rfl (gci T.i_MAX_CELLS)) pa_nil)))))) (pss_one (ps_never)) (pss_nil))
      (pss_cons (ps_fld (pv 0) (pe_op op_rep (pe_lst (pa_cons (pv 2) pa_nil)) (pv 1)) rfl)
      (pss_cons (ps_fld (pv 0) (pe_op op_rep (pe_lst (pa_cons (pv 2) pa_nil)) (pv 1)) rfl)
      (pss_cons (ps_fld (pv 0) (pe_lst (pa_nil)) rfl)
      (pss_one (ps_fld (pv 0) (pe_lst (pa_cons (pe_int) (pa_cons (pe_int) (pa_cons (pe_int) pa_nil)))) rfl))))), ?_⟩
  refine ⟨_, rfl, _, _, _, rfl, _, _, _, rfl, rfl, rfl, _, rfl, ite_not (in_true (by omega) (by omega)) ?_⟩
  refine ⟨_, rfl, (show (1 : Nat) ≤ sizeLine by decide), fun p1 hp1 => ?_⟩
  have s1 : Mv (fun i => i = r) ρ H _ _ := Mv.refl.new hp1 0 (.lst [e])
  refine ⟨_, rfl, p1, n, [e], rfl, rfl, upd_same, by omega, by omega, by unfold sizeLine; rw [Int.toNat_natCast, List.length_singleton]; omega, fun q hq => ?_⟩
  rw [Int.toNat_natCast, rep_flat]
  have s2 := s1.new hq (r + 1) (.lst (List.replicate n e))
  have hq2 := upd_same (H := upd H p1 (.lst [e])) (a := q) (o := .lst (List.replicate n e))
  have rq2 : rs (rs ρ p1 0) q (r + 1) q = r + 1 := rs_same
  have hd2 : upd (upd H p1 (.lst [e])) q (.lst (List.replicate n e)) d = some _ := (upd_ne (ne_of_none ((upd_ne (ne_of_none hd hp1)).trans hd) hq)).trans ((upd_ne (ne_of_none hd hp1)).trans hd)
  have rd2 := s2.ro hd rd
  generalize upd (upd H p1 (.lst [e])) q (.lst (List.replicate n e)) = H2 at s2 hq2 hd2 ⊢
  generalize rs (rs ρ p1 0) q (r + 1) = ρ2 at s2 rq2 rd2
  refine ⟨_, rfl, d, _, dx, _, rfl, hd2, T.cl_Disk, T.na_Disk_shown, (show (0 : Nat) < 1000 by decide), ?_⟩
  have s3 : Mv (fun i => i = r) ρ2 H2 _ _ := Mv.refl.wr hd2 (fun xs z => by cases z) (.inr rd2) (.ins (He.ga K "Disk") dx (putF "shown" (.ref q) []))
  refine ⟨_, rfl, (show (1 : Nat) ≤ sizeLine by decide), fun p3 hp3 => ?_⟩
  have s4 := s3.new hp3 0 (.lst [e])
  refine ⟨_, rfl, p3, n, [e], rfl, rfl, upd_same, by omega, by omega, by unfold sizeLine; rw [Int.toNat_natCast, List.length_singleton]; omega, fun q4 hq4 => ?_⟩
  rw [Int.toNat_natCast, rep_flat]
  have s5 := s4.new hq4 (r + 2) (.lst (List.replicate n e))
  have hd3 : upd H2 d (.ins (He.ga K "Disk") dx (putF "shown" (.ref q) [])) d = _ := upd_same
  have hd4 := (upd_ne (o := .lst [e]) (ne_of_none hd3 hp3)).trans hd3
  have hd5 := (upd_ne (o := .lst (List.replicate n e)) (ne_of_none hd4 hq4)).trans hd4
  have hq5 := upd_same (H := upd (upd H2 d (.ins (He.ga K "Disk") dx (putF "shown" (.ref q) []))) p3 (.lst [e])) (a := q4) (o := .lst (List.replicate n e))
  have rq5 : rs (rs ρ2 p3 0) q4 (r + 2) q4 = r + 2 := rs_same
  have rd5 : rs (rs ρ2 p3 0) q4 (r + 2) d = r := s5.ro hd2 rd2
  generalize upd (upd (upd H2 d (.ins (He.ga K "Disk") dx (putF "shown" (.ref q) []))) p3 (.lst [e])) q4 (.lst (List.replicate n e)) = H5 at s5 hq5 hd5 ⊢
  generalize rs (rs ρ2 p3 0) q4 (r + 2) = ρ5 at s5 rq5 rd5
  refine ⟨_, rfl, d, _, dx, _, rfl, hd5, T.cl_Disk, T.na_Disk_synced, (show (1 : Nat) < 1000 by decide), ?_⟩
  have s6 : Mv (fun i => i = r) ρ5 H5 _ _ := Mv.refl.wr hd5 (fun xs z => by cases z) (.inr rd5) (.ins (He.ga K "Disk") dx (putF "synced" (.ref q4) (putF "shown" (.ref q) [])))
  refine ⟨by decide, fun q6 hq6 => ?_⟩
  have s7 := s6.new hq6 (r + 3) (.lst [])
  have hd7 := (upd_ne (o := .lst []) (ne_of_none upd_same hq6)).trans (upd_same (H := H5) (a := d) (o := .ins (He.ga K "Disk") dx (putF "synced" (.ref q4) (putF "shown" (.ref q) []))))
  have rd7 := s7.ro hd5 rd5
  have hq7 := upd_same (H := upd H5 d (.ins (He.ga K "Disk") dx (putF "synced" (.ref q4) (putF "shown" (.ref q) [])))) (a := q6) (o := .lst [])
  have rq7 : rs ρ5 q6 (r + 3) q6 = r + 3 := rs_same
  generalize upd (upd H5 d (.ins (He.ga K "Disk") dx (putF "synced" (.ref q4) (putF "shown" (.ref q) [])))) q6 (.lst []) = H7 at s7 hq7 hd7 ⊢
  generalize rs ρ5 q6 (r + 3) = ρ7 at s7 rq7 rd7
  refine ⟨_, rfl, d, _, dx, _, rfl, hd7, T.cl_Disk, T.na_Disk_waiting, (show (2 : Nat) < 1000 by decide), ?_⟩
  have s8 : Mv (fun i => i = r) ρ7 H7 _ _ := Mv.refl.wr hd7 (fun xs z => by cases z) (.inr rd7) (.ins (He.ga K "Disk") dx (putF "waiting" (.ref q6) (putF "synced" (.ref q4) (putF "shown" (.ref q) []))))
  refine ⟨(show (3 : Nat) ≤ sizeLine by decide), fun q8 hq8 => ?_⟩
  have s9 := s8.new hq8 (r + 4) (.lst [.int 0, .int 0, .int 0])
  have hd9 := (upd_ne (o := .lst [.int 0, .int 0, .int 0]) (ne_of_none upd_same hq8)).trans (upd_same (H := H7) (a := d) (o := .ins (He.ga K "Disk") dx (putF "waiting" (.ref q6) (putF "synced" (.ref q4) (putF "shown" (.ref q) [])))))
  have rd9 := s9.ro hd7 rd7
  refine ⟨_, rfl, d, _, dx, _, rfl, hd9, T.cl_Disk, T.na_Disk_tally, (show (3 : Nat) < 1000 by decide), ?_⟩
  have hq9 := upd_same (H := upd H7 d (.ins (He.ga K "Disk") dx (putF "waiting" (.ref q6) (putF "synced" (.ref q4) (putF "shown" (.ref q) []))))) (a := q8) (o := .lst [.int 0, .int 0, .int 0])
  have rq9 : rs ρ7 q8 (r + 4) q8 = r + 4 := rs_same
  have sA : Mv (fun i => i = r) _ _ _ _ := Mv.refl.wr hd9 (fun xs z => by cases z) (.inr rd9) (.ins (He.ga K "Disk") dx (diskF ⟨q, q4, q6, q8⟩))
  have t7 := s9.trans sA
  have t5 := s7.trans t7
  have t2 := s5.trans t5
  have t0 := s2.trans t2
  exact k _ _ ⟨dx, ⟨q, q4, q6, q8⟩, upd_same, sA.ro hd9 rd9, ⟨_, t2.keeps hq2 rq2 (by omega), all_rep (c.mono t0.tups he) n⟩, ⟨_, t5.keeps hq5 rq5 (by omega), all_rep (c.mono t0.tups he) n⟩, ⟨_, t7.keeps hq7 rq7 (by omega), .nil⟩, sA.keeps hq9 rq9 (by omega), t2.ro hq2 rq2, t5.ro hq5 rq5, t7.ro hq7 rq7, sA.ro hq9 rq9⟩
    (t0.mono fun i hi => by subst hi; exact sd i (i := 0) (by decide))
/-- Disk(cells): the content is 0 -/
theorem bd_D_init (T : Txt K mg) : ∃ ds, Vals [V.int 0] ds ∧ Binds K (fdOf K (He.ma K (He.ga K "Disk") "__init__")) ["self", "cells", "content"] ds :=
  T.F_D_init.binds0 2 (by simp) rfl fun D doc pm an cdv ct us ks h1 h2 => match us, h1, ks, h2 with
    | [a, b], _, [e], _ => ⟨_, _, _, _, _, _, rfl, rfl, rfl⟩
theorem k_D_init (T : Txt K mg) : C8.Mak P w K mg base 3 "Disk" (He.ga K "Disk") (sp_D_init K) [V.int 0] :=
  let ⟨ds, h1, h2⟩ := bd_D_init T
  ⟨_, _, _, ds, T.mk_Disk, f_D_init T, T.g_Disk, h2, h1⟩
/-- Disk(cells, content = ..) -/
theorem kb_D_init (T : Txt K mg) : ∃ mv : List Value, KBn K (fdOf K (He.ma K (He.ga K "Disk") "__init__")) ["self", "cells", "content"] 2 ["content"] (fun us ws => us ++ ws) (fun vs zs => vs ++ zs) :=
  T.F_D_init.kbinds0 2 ["content"] [] (fun us mz ws => us ++ ws) (by simp) (by simp) (fun r1 _ r3 => r1.append r3) fun D doc pm an cdv ct us mv ws h1 h2 h3 => match us, h1, ws, h3, mv, h2 with
    | [a, b], _, [e], _, [], _ => rfl
end
end Kb
set_option Elab.async false
set_option linter.all false
set_option maxRecDepth 100000
set_option maxHeartbeats 4000000
namespace Kb
open PySem PySem.Spec PyProof.Rows L2
/-! ### recipes -/
def isSync : Wd → Bool
  | .sslow => true
  | .sfast => true
  | _ => false
def stepsOf : Nat → List Wd
  | 3 => [.slow, .sslow, .mark, .sfast]
  | _ => [.slow, .sslow, .fast, .sfast, .free, .done]
structure OkR (p : Nat) (l : List Wd) : Prop where
  len : l.length ≤ 8
  ok : ∀ w ∈ l, w ∈ stepsOf p
  nd : (l.filter fun w => !isSync w).Nodup
  dn : p = 3 ∨ .done ∈ l
theorem wdS_eq (a b : Wd) : (wdS a == wdS b) = decide (a = b) := by cases a <;> cases b <;> decide +kernel
theorem inV_wd (w : Wd) : ∀ l : List Wd, inV (.str (wdS w)) (wdV l) = l.any fun x => decide (x = w)
  | [] => rfl
  | a :: l => by
    have e := inV_wd w l
    show (eqV (.str (wdS a)) (.str (wdS w)) || inV (.str (wdS w)) (wdV l)) = _
    rw [e]
    show ((wdS a == wdS w) || _) = _
    rw [wdS_eq]
    rfl
theorem inV_mem {w : Wd} {l : List Wd} (h : w ∈ l) : inV (.str (wdS w)) (wdV l) = true := by
  rw [inV_wd]
  exact List.any_eq_true.mpr ⟨w, h, decide_eq_true rfl⟩
theorem inV_not {w : Wd} {l : List Wd} (h : w ∉ l) : inV (.str (wdS w)) (wdV l) = false := by
  rw [inV_wd]
  exact List.any_eq_false.mpr fun x hx z => h (by rw [← of_decide_eq_true z]; exact hx)
theorem flat_wd (l : List Wd) : (wdV l).all flatV = true := by
  unfold wdV
  rw [List.all_map]
  exact List.all_eq_true.mpr fun _ _ => rfl
theorem wdV_at {l : List Wd} {i : Nat} {x : V} (h : (wdV l)[i]? = some x) : ∃ w, l[i]? = some w ∧ x = .str (wdS w) := by
  unfold wdV at h
  rw [List.getElem?_map] at h
  cases q : l[i]? with
  | none => rw [q] at h; cases h
  | some w =>
    rw [q] at h
    exact ⟨w, rfl, (Option.some.inj h).symm⟩
theorem not_before {l : List Wd} (nd : (l.filter fun w => !isSync w).Nodup) {i : Nat} {w : Wd} (h : l[i]? = some w) (hs : isSync w = false) : w ∉ l.take i := by
  intro m
  have e : l = l.take i ++ l.drop i := (List.take_append_drop i l).symm
  have hd : w ∈ l.drop i := by
    obtain ⟨hl, hv⟩ := List.getElem?_eq_some_iff.mp h
    rw [List.mem_iff_getElem]
    refine ⟨0, by rw [List.length_drop]; omega, ?_⟩
    rw [List.getElem_drop]
    simpa using hv
  rw [e, List.filter_append, List.nodup_append] at nd
  exact nd.2.2 w (List.mem_filter.mpr ⟨m, by rw [hs]; rfl⟩) w (List.mem_filter.mpr ⟨hd, by rw [hs]; rfl⟩) rfl
section
variable {P : Program} {w : World} {K : PySem.W.Frag} {mg : Str → Option Value} {base : Heap}
theorem steps_at (T : Txt K mg) {p : Nat} (hp : p < 4) : ∃ a, [V.ref (He.ga K "WRITE_STEPS"), .ref (He.ga K "WRITE_STEPS"), .ref (He.ga K "WRITE_STEPS"), .ref (He.ga K "CLEAN_STEPS")][p]? = some (.ref a) ∧ ∀ H, SqT K H a (wdV (stepsOf p)) := by
  match p, hp with
  | 0, _ => exact ⟨_, rfl, T.t_WRITE_STEPS⟩
  | 1, _ => exact ⟨_, rfl, T.t_WRITE_STEPS⟩
  | 2, _ => exact ⟨_, rfl, T.t_WRITE_STEPS⟩
  | 3, _ => exact ⟨_, rfl, T.t_CLEAN_STEPS⟩
def kindS : Nat → Str
  | 0 => "through"
  | 1 => "back"
  | 2 => "around"
  | _ => "clean"
theorem kinds_at {p : Nat} (hp : p < 4) : [V.str "through", .str "back", .str "around", .str "clean"][p]? = some (.str (kindS p)) := by
  match p, hp with
  | 0, _ => rfl
  | 1, _ => rfl
  | 2, _ => rfl
  | 3, _ => rfl
theorem sync_at (w : Wd) : inV (.str (wdS w)) [.str "sync slow", .str "sync fast"] = isSync w := by cases w <;> decide +kernel
def sp_chk : Sp := Sp2 fun a b H Q => ∃ (p : Nat) (t : Addr) (l : List Wd) (ρ : Ro), a = .int (p : Int) ∧ b = .ref t ∧ p < 4 ∧ OkR p l ∧ H t = some (.tup (wdV l)) ∧ ∀ (ρ' : Ro) (H' : Hp), Mv S0 ρ H ρ' H' → Q .non H'
theorem sc_P_check_recipe : FnScope ["part", "recipe", "place", "word", "is_step"] ["part", "recipe"] (defScope s_P_check_recipe) := ⟨rfl, rfl, rfl, by decide +kernel, rfl, by decide +kernel, by decide +kernel⟩
theorem c_P_check_recipe (T : Txt K mg) : C8.Cal P w K mg base 1 "check_recipe" (sp_chk) [] := by
  refine cal_of T.F_P_check_recipe T.g_check_recipe sc_P_check_recipe len2 (fun _ _ _ _ _ _ us hl => match us, hl with | [_, _], _ => rfl) (fun cdv A outer s H vs Q E hr h => ?_)
  obtain ⟨a, b, rfl, p, t, l, ρ, rfl, rfl, hp, ok, ht, k⟩ := h
  obtain ⟨sa, hsa, hst⟩ := steps_at T hp
  refine ⟨_, pss_cons (ps_if (pt_not (pt_val (pe_callB call_isi (by rfl) T.f_isinstance (by decide +kernel) (pa_cons (pv 1) (pa_cons (pe_bltn (v := .ty "tuple") (u := .type "tuple") rfl T.f_tuple (by decide +kernel) rfl) pa_nil))))) (pss_one (ps_never)) (pss_nil))
      (pss_cons (ps_for PassesOwn.never rfl (pi_enumT (by rfl) T.f_enumerate (pa_cons (pv 1) pa_nil)) (pg_tup (n := 2) rfl (pgs_cons (pg_name (i := 2) sc_P_check_recipe.nd rfl (.inl rfl)) (pgs_cons (pg_name (i := 3) sc_P_check_recipe.nd rfl (.inl rfl)) pgs_nil))) (pss_cons (ps_set (i := 4) sc_P_check_recipe.nd rfl (.inl rfl) (pe_and (pe_callB call_isi (by rfl) T.f_isinstance (by decide +kernel) (pa_cons (pv 3) (pa_cons (pe_bltn (v := .ty "str") (u := .type "str") rfl T.f_str (by decide +kernel) rfl) pa_nil))) (pe_one (pe_cmpR op_in_seq (pv 3) (pe_ix ix_tup (C8.pe_gc rfl (gcr T.ga_STEPS)) (pv 0) (fun _ _ => rfl)) (by rfl)))))
      (pss_one (ps_if (PW.pt (pw_or (pt_cmpR op_eq (pv 2) (C8.pe_gc rfl (gci T.i_MAX_STEPS)) (nomark _)) (pw_or (pt_not (pt_val (pv 4))) (pw_or1 (PW.pt (pw_and (pt_cmpR op_notIn_seq (pv 3) (C8.pe_gc rfl (gcr T.ga_SYNCS)) (by rfl)) (pw_and1 (pt_cmpR op_in_seq (pv 3) (pe_slice sl_tupA (pv 1) (po_none) (po_some (pv 2))) (by rfl))))))))) (pss_one (ps_never)) (pss_nil)))))
      (pss_one (ps_if (PW.pt (pw_and (pt_cmpR op_ne (pe_ix ix_tup (C8.pe_gc rfl (gcr T.ga_KINDS)) (pv 0) (fun _ _ => rfl)) (C8.pe_gc rfl (gcs T.s_CLEAN)) (nomark _)) (pw_and1 (pt_cmpR op_notIn_seq (C8.pe_gc rfl (gcs T.s_DONE)) (pv 1) (by rfl))))) (pss_one (ps_never)) (pss_nil)))), ?_⟩
  refine ⟨_, rfl, _, _, .type "tuple", _, true, rfl, .ty "tuple", .base (.tup ht), kit_ty (by decide +kernel), true, rfl, iteF ?_⟩
  refine ⟨_, rfl, t, _, rfl, SqT.of ht, ?_⟩
  refine for_it walk_enumT (fun i σ H' => (∃ x y z ρ', σ = [some (.int p), some (.ref t), x, y, z] ∧ Mv S0 ρ H ρ' H')) ⟨_, _, _, ρ, rfl, Mv.refl⟩ (fun i σ H' _ ⟨_, _, _, _, _, m⟩ => SqT.of (m.tups _ _ ht)) (fun i x σ H1 H2 hi ⟨x0, y0, z0, ρ1, e, m⟩ y => ?_) (fun σ H1 ⟨x0, y0, z0, ρ1, e, m⟩ => ?_)
  · obtain ⟨U, x, y, rfl, hU, rfl, hx, hy⟩ := y
    subst e
    cases hx
    obtain ⟨w, hw, rfl⟩ := wdV_at hy
    refine pair_at ?_
    have m2 := m.new hU 0 (.tup [.int (i : Nat), .str (wdS w)])
    have hmem := ok.ok w (List.mem_of_getElem? hw)
    have hil := (List.getElem?_eq_some_iff.mp hw).1
    have hl8 := ok.len
    refine ⟨_, rfl, _, _, .type "str", _, true, rfl, .ty "str", .base (.str _), kit_ty (by decide +kernel), true, rfl, iteT ?_⟩
    refine ⟨_, rfl, _, rfl, _, _, _, _, rfl, rfl, T.t_STEPS _, atI_nat hsa, sa, _, rfl, .inr (hst _), rfl, flat_wd _, ?_⟩
    rw [if_neg Bool.false_ne_true, inV_mem hmem]
    refine ⟨_, rfl, rfl, _, rfl, ite_ff (decide_eq_false fun z => by injection z; omega) ?_⟩
    refine ⟨_, rfl, true, rfl, iteF ?_⟩
    refine ⟨_, rfl, _, _, rfl, .inr (T.t_SYNCS _), rfl, rfl, ?_⟩
    rw [if_pos rfl, sync_at]
    refine ⟨_, rfl, ?_⟩
    cases hs : isSync w with
    | true => exact iteF (iteF ⟨_, _, _, _, rfl, m2⟩)
    | false =>
      have ht2 := m2.tups _ _ ht
      refine iteT ⟨_, rfl, _, rfl, _, rfl, _, rfl, t, wdV l, rfl, SqT.of ht2, fun z => ?_, fun _ q hq => ?_⟩
      · have z2 := z.2
        rw [HT.sIx_nat] at z2
        unfold wdV at z2
        rw [List.length_map] at z2
        omega
      · have e : cutV (wdV l) none (some (i : Nat)) = wdV (l.take i) := by
          unfold cutV wdV
          rw [HT.sIx_nat, HT.sIx_none, List.length_map, List.drop_zero, Nat.sub_zero, ← List.map_take, Nat.min_eq_left (by omega)]
        rw [e]
        refine ⟨q, _, rfl, .inr (SqT.of upd_same), rfl, flat_wd _, ?_⟩
        rw [if_neg Bool.false_ne_true, inV_not (not_before ok.nd hw hs)]
        exact ⟨_, rfl, iteF ⟨_, _, _, _, rfl, m2.new hq 0 _⟩⟩
  · subst e
    refine ⟨_, rfl, _, _, _, _, rfl, rfl, T.t_KINDS _, atI_nat (kinds_at hp), rfl, _, rfl, ?_⟩
    rcases ok.dn with z | z
    · subst z
      exact ite_ff (by decide +kernel) (iteF (k _ _ m))
    · have e : inV (.str "done") (wdV l) = true := inV_mem (w := .done) z
      cases hc : (!decide (V.str (kindS p) = V.str "clean")) with
      | true =>
        refine iteT ⟨_, rfl, _, _, rfl, .inr (SqT.of (m.tups _ _ ht)), rfl, flat_wd _, ?_⟩
        rw [if_pos rfl, e]
        exact ⟨_, rfl, iteF (k _ _ m)⟩
      | false => exact iteF (iteF (k _ _ m))
/-! ### Rules -/
theorem words_at (T : Txt K mg) (c : Cfg) {i : Nat} (hi : i < 3) : ∃ a z xs, [V.ref (itA K "WORDS" 0), .ref (itA K "WORDS" 1), .ref (itA K "WORDS" 2)][i]? = some (.ref a) ∧ (ruleV c)[i]? = some (.str z) ∧ (∀ H, SqT K H a xs) ∧ xs.all flatV = true ∧ inV (.str z) xs = true := by
  match i, hi with
  | 0, _ => exact ⟨_, _, _, rfl, rfl, T.t_WORDS0, rfl, by cases c.way <;> decide +kernel⟩
  | 1, _ => exact ⟨_, _, _, rfl, rfl, T.t_WORDS1, rfl, by cases c.keep <;> decide +kernel⟩
  | 2, _ => exact ⟨_, _, _, rfl, rfl, T.t_WORDS2, rfl, by cases c.cho <;> decide +kernel⟩
def sp_Rr_init (K : PySem.W.Frag) : Sp := Sp5 fun a b d e g H Q => ∃ (c : Cfg) (ρ : Ro) (p dx : Addr), a = .ref p ∧ b = .str (wayS c.way) ∧ d = .str (keepS c.keep) ∧ e = .str (choS c.cho) ∧ g = .int (c.bound : Int) ∧ c.bound ≤ 8 ∧ H p = some (.ins (He.ga K "Rules") dx []) ∧ ρ p = 1100 ∧
  ∀ (ρ' : Ro) (H' : Hp), RulesAt K ρ' H' p c → Mv (fun n => n = 1100) ρ H ρ' H' → Q .non H'
theorem sc_Rr_init : FnScope ["self", "writing", "reading", "choice", "bound", "parts", "part", "words"] ["self", "writing", "reading", "choice", "bound"] (defScope s_Rr_init) := ⟨rfl, rfl, rfl, by decide +kernel, rfl, by decide +kernel, by decide +kernel⟩
theorem k_Rr_init (T : Txt K mg) : C8.Mak P w K mg base 3 "Rules" (He.ga K "Rules") (sp_Rr_init K) [] := by
  refine mak_of T.F_Rr_init T.mk_Rules T.g_Rules sc_Rr_init len5 (fun _ _ _ _ _ _ us hl => match us, hl with | [_, _, _, _, _], _ => rfl) (fun cdv A outer s H vs Q E hr h => ?_)
  obtain ⟨a, b, d, e, g, rfl, c, ρ, p, dx, rfl, rfl, rfl, rfl, rfl, hb, hp, rp, k⟩ := h
  refine ⟨_, pss_cons (ps_set (i := 5) sc_Rr_init.nd rfl (.inl rfl) (pe_tup (pa_cons (pv 1) (pa_cons (pv 2) (pa_cons (pv 3) (pa_cons (pv 4) pa_nil))))))
      (pss_cons (ps_for PassesOwn.never rfl (pi_enumT (by rfl) T.f_enumerate (pa_cons (C8.pe_gc rfl (gcr T.ga_WORDS)) pa_nil)) (pg_tup (n := 2) rfl (pgs_cons (pg_name (i := 6) sc_Rr_init.nd rfl (.inl rfl)) (pgs_cons (pg_name (i := 7) sc_Rr_init.nd rfl (.inl rfl)) pgs_nil))) (pss_one (ps_if (PW.pt (pw_or (pt_not (pt_val (pe_callB call_isi (by rfl) T.f_isinstance (by decide +kernel) (pa_cons (pe_ix ix_tup (pv 5) (pv 6) (fun _ _ => rfl)) (pa_cons (pe_bltn (v := .ty "str") (u := .type "str") rfl T.f_str (by decide +kernel) rfl) pa_nil))))) (pw_or1 (pt_cmpR op_notIn_seq (pe_ix ix_tup (pv 5) (pv 6) (fun _ _ => rfl)) (pv 7) (by rfl))))) (pss_one (ps_never)) (pss_nil))))
      (pss_cons (ps_if (pt_not (pt_val (C8.pe_c (c_P_is_int_in T) hr (by decide) rfl (pa_cons (pv 4) (pa_cons (pe_int) (pa_cons (C8.pe_gc rfl (gci T.i_MAX_BOUND)) pa_nil)))))) (pss_one (ps_never)) (pss_nil))
      (pss_one (ps_fld (pv 0) (pv 5) rfl)))), ?_⟩
  refine ⟨_, rfl, _, rfl, _, rfl, _, rfl, (show (4 : Nat) ≤ sizeLine by decide), fun t ht => ?_⟩
  have m0 : Mv S0 ρ H _ _ := Mv.refl.new ht 0 (.tup (ruleV c))
  have ht0 : upd H t (.tup (ruleV c)) t = some (.tup (ruleV c)) := upd_same
  refine ⟨_, _, rfl, T.t_WORDS _, ?_⟩
  refine for_it walk_enumT (fun i σ H' => (∃ x y ρ', σ = [some (.ref p), some (.str (wayS c.way)), some (.str (keepS c.keep)), some (.str (choS c.cho)), some (.int (c.bound : Int)), some (.ref t), x, y] ∧ Mv S0 ρ H ρ' H' ∧ H' t = some (.tup (ruleV c)))) ⟨_, _, _, rfl, m0, ht0⟩ (fun i σ H' _ _ => T.t_WORDS _) (fun i x σ H1 H2 hi ⟨x0, y0, ρ1, e, m, ht1⟩ y => ?_) (fun σ H1 ⟨x0, y0, ρ1, e, m, ht1⟩ => ?_)
  · obtain ⟨U, x, y, rfl, hU, rfl, hx, hy⟩ := y
    subst e
    cases hx
    obtain ⟨wa, z, xs, e1, e2, e3, e4, e5⟩ := words_at T c (show i < 3 from hi)
    cases e1.symm.trans hy
    refine pair_at ?_
    have m2 := m.new hU 0 (.tup [.int (i : Nat), .ref wa])
    have ht2 := (upd_ne (o := .tup [.int (i : Nat), .ref wa]) (ne_of_none ht1 hU)).trans ht1
    refine ⟨_, rfl, _, rfl, t, _, _, _, rfl, rfl, SqT.of ht2, atI_nat e2, _, _, .type "str", _, true, rfl, .ty "str", .base (.str _), kit_ty (by decide +kernel), true, rfl, iteF ?_⟩
    refine ⟨_, rfl, _, rfl, t, _, _, _, rfl, rfl, SqT.of ht2, atI_nat e2, _, rfl, wa, xs, rfl, .inr (e3 _), rfl, e4, ?_⟩
    rw [if_pos rfl, e5]
    exact ⟨_, rfl, iteF ⟨_, _, _, rfl, m2, ht2⟩⟩
  · subst e
    refine ⟨_, rfl, _, _, _, rfl, _, _, _, rfl, rfl, rfl, _, rfl, ite_not (in_true (by omega) (by omega)) ?_⟩
    have hp1 := m.at0 hp
    refine ⟨_, rfl, _, rfl, p, _, dx, _, rfl, hp1, T.cl_Rules, T.na_Rules_parts, (show (0 : Nat) < 1000 by decide), ?_⟩
    have rp1 := m.ro hp rp
    have m3 : Mv (fun n => n = 1100) ρ H ρ1 _ := (m.mono fun n z => z.elim).wr hp1 (fun xs z => by cases z) (.inr rp1) (.ins (He.ga K "Rules") dx [("parts", .ref t)])
    exact k _ _ ⟨dx, t, upd_same, rp1, (upd_ne (ne_of ht1 hp1 (by intro z; cases z))).trans ht1⟩ m3
def sp_Rr (K : PySem.W.Frag) (i : Nat) : Sp := Sp1 fun a H Q => ∃ (c : Cfg) (ρ : Ro) (p : Addr) (v : V), a = .ref p ∧ RulesAt K ρ H p c ∧ (ruleV c)[i]? = some v ∧ Q v H
theorem sc_Rr_writing : FnScope ["self"] ["self"] (defScope s_Rr_writing) := ⟨rfl, rfl, rfl, by decide +kernel, rfl, by decide +kernel, by decide +kernel⟩
theorem p_Rr_writing (T : Txt K mg) : Pro P w K mg base 1 (He.ga K "Rules") "writing" (sp_Rr K 0) := by
  refine pro_of T.F_Rr_writing T.cl_Rules T.pr_Rules_writing sc_Rr_writing len1 (fun _ _ _ _ _ _ us hl => match us, hl with | [_], _ => rfl) (fun cdv A outer s H vs Q E hr h => ?_)
  obtain ⟨a, rfl, c, ρ, p, v, rfl, ⟨dx, t, h1, h2, h3⟩, hv, k⟩ := h
  refine ⟨_, pss_one (ps_ret (pe_ix ix_tup (pe_fld (pv 0) rfl) (pe_int) (fun _ _ => rfl))), ?_⟩
  exact ⟨_, rfl, p, _, dx, _, _, rfl, h1, T.cl_Rules, T.na_Rules_parts, rfl, _, _, _, _, rfl, rfl, SqT.of h3, atI_nat (j := 0) hv, k⟩
theorem sc_Rr_reading : FnScope ["self"] ["self"] (defScope s_Rr_reading) := ⟨rfl, rfl, rfl, by decide +kernel, rfl, by decide +kernel, by decide +kernel⟩
theorem p_Rr_reading (T : Txt K mg) : Pro P w K mg base 1 (He.ga K "Rules") "reading" (sp_Rr K 1) := by
  refine pro_of T.F_Rr_reading T.cl_Rules T.pr_Rules_reading sc_Rr_reading len1 (fun _ _ _ _ _ _ us hl => match us, hl with | [_], _ => rfl) (fun cdv A outer s H vs Q E hr h => ?_)
  obtain ⟨a, rfl, c, ρ, p, v, rfl, ⟨dx, t, h1, h2, h3⟩, hv, k⟩ := h
  refine ⟨_, pss_one (ps_ret (pe_ix ix_tup (pe_fld (pv 0) rfl) (pe_int) (fun _ _ => rfl))), ?_⟩
  exact ⟨_, rfl, p, _, dx, _, _, rfl, h1, T.cl_Rules, T.na_Rules_parts, rfl, _, _, _, _, rfl, rfl, SqT.of h3, atI_nat (j := 1) hv, k⟩
theorem sc_Rr_choice : FnScope ["self"] ["self"] (defScope s_Rr_choice) := ⟨rfl, rfl, rfl, by decide +kernel, rfl, by decide +kernel, by decide +kernel⟩
theorem p_Rr_choice (T : Txt K mg) : Pro P w K mg base 1 (He.ga K "Rules") "choice" (sp_Rr K 2) := by
  refine pro_of T.F_Rr_choice T.cl_Rules T.pr_Rules_choice sc_Rr_choice len1 (fun _ _ _ _ _ _ us hl => match us, hl with | [_], _ => rfl) (fun cdv A outer s H vs Q E hr h => ?_)
  obtain ⟨a, rfl, c, ρ, p, v, rfl, ⟨dx, t, h1, h2, h3⟩, hv, k⟩ := h
  refine ⟨_, pss_one (ps_ret (pe_ix ix_tup (pe_fld (pv 0) rfl) (pe_int) (fun _ _ => rfl))), ?_⟩
  exact ⟨_, rfl, p, _, dx, _, _, rfl, h1, T.cl_Rules, T.na_Rules_parts, rfl, _, _, _, _, rfl, rfl, SqT.of h3, atI_nat (j := 2) hv, k⟩
theorem sc_Rr_bound : FnScope ["self"] ["self"] (defScope s_Rr_bound) := ⟨rfl, rfl, rfl, by decide +kernel, rfl, by decide +kernel, by decide +kernel⟩
theorem p_Rr_bound (T : Txt K mg) : Pro P w K mg base 1 (He.ga K "Rules") "bound" (sp_Rr K 3) := by
  refine pro_of T.F_Rr_bound T.cl_Rules T.pr_Rules_bound sc_Rr_bound len1 (fun _ _ _ _ _ _ us hl => match us, hl with | [_], _ => rfl) (fun cdv A outer s H vs Q E hr h => ?_)
  obtain ⟨a, rfl, c, ρ, p, v, rfl, ⟨dx, t, h1, h2, h3⟩, hv, k⟩ := h
  refine ⟨_, pss_one (ps_ret (pe_ix ix_tup (pe_fld (pv 0) rfl) (pe_int) (fun _ _ => rfl))), ?_⟩
  exact ⟨_, rfl, p, _, dx, _, _, rfl, h1, T.cl_Rules, T.na_Rules_parts, rfl, _, _, _, _, rfl, rfl, SqT.of h3, atI_nat (j := 3) hv, k⟩
/-! ### Recipes -/
structure OkC (c : Cfg) : Prop where
  o1 : OkR 0 c.thr
  o2 : OkR 1 c.bk
  o3 : OkR 2 c.ar
  o4 : OkR 3 c.cl
def rcpN (c : Cfg) : Nat → List Wd
  | 0 => c.thr
  | 1 => c.bk
  | 2 => c.ar
  | _ => c.cl
theorem Rcps.at {H : Hp} {c : Cfg} {vs : List V} (h : Rcps H c vs) {i : Nat} (hi : i < 4) : ∃ t, vs[i]? = some (.ref t) ∧ H t = some (.tup (wdV (rcpN c i))) := by
  obtain ⟨t1, t2, t3, t4, rfl, h1, h2, h3, h4⟩ := h.ex
  match i, hi with
  | 0, _ => exact ⟨_, rfl, h1⟩
  | 1, _ => exact ⟨_, rfl, h2⟩
  | 2, _ => exact ⟨_, rfl, h3⟩
  | 3, _ => exact ⟨_, rfl, h4⟩
theorem Rcps.len {H : Hp} {c : Cfg} {vs : List V} (h : Rcps H c vs) : vs.length = 4 := by
  obtain ⟨t1, t2, t3, t4, rfl, _⟩ := h.ex
  rfl
theorem OkC.at {c : Cfg} (h : OkC c) {i : Nat} (hi : i < 4) : OkR i (rcpN c i) := by
  match i, hi with
  | 0, _ => exact h.o1
  | 1, _ => exact h.o2
  | 2, _ => exact h.o3
  | 3, _ => exact h.o4
def sp_Rc_init (K : PySem.W.Frag) : Sp := Sp5 fun a b d e g H Q => ∃ (c : Cfg) (ρ : Ro) (p dx : Addr), a = .ref p ∧ Rcps H c [b, d, e, g] ∧ OkC c ∧ H p = some (.ins (He.ga K "Recipes") dx []) ∧ ρ p = 1101 ∧
  ∀ (ρ' : Ro) (H' : Hp), RecsAt K ρ' H' p c → Mv (fun n => n = 1101) ρ H ρ' H' → Q .non H'
theorem sc_Rc_init : FnScope ["self", "through", "back", "around", "clean", "part", "recipe"] ["self", "through", "back", "around", "clean"] (defScope s_Rc_init) := ⟨rfl, rfl, rfl, by decide +kernel, rfl, by decide +kernel, by decide +kernel⟩
theorem k_Rc_init (T : Txt K mg) : C8.Mak P w K mg base 2 "Recipes" (He.ga K "Recipes") (sp_Rc_init K) [] := by
  refine mak_of T.F_Rc_init T.mk_Recipes T.g_Recipes sc_Rc_init len5 (fun _ _ _ _ _ _ us hl => match us, hl with | [_, _, _, _, _], _ => rfl) (fun cdv A outer s H vs Q E hr h => ?_)
  obtain ⟨a, b, d, e, g, rfl, c, ρ, p, dx, rfl, hr4, ok, hp, rp, k⟩ := h
  refine ⟨_, pss_cons (ps_fld (pv 0) (pe_tup (pa_cons (pv 1) (pa_cons (pv 2) (pa_cons (pv 3) (pa_cons (pv 4) pa_nil))))) rfl)
      (pss_one (ps_for PassesOwn.never rfl (pi_enumT (by rfl) T.f_enumerate (pa_cons (pe_fld (pv 0) rfl) pa_nil)) (pg_tup (n := 2) rfl (pgs_cons (pg_name (i := 5) sc_Rc_init.nd rfl (.inl rfl)) (pgs_cons (pg_name (i := 6) sc_Rc_init.nd rfl (.inl rfl)) pgs_nil))) (pss_one (ps_expr (C8.pe_c (c_P_check_recipe T) hr (by decide) rfl (pa_cons (pv 5) (pa_cons (pv 6) pa_nil))))))), ?_⟩
  refine ⟨_, rfl, _, rfl, _, rfl, _, rfl, (show (4 : Nat) ≤ sizeLine by decide), fun t ht => ?_⟩
  have m0 : Mv (fun n => n = 1101) ρ H _ _ := Mv.refl.new ht 0 (.tup [b, d, e, g])
  have hp0 := (upd_ne (o := .tup [b, d, e, g]) (ne_of_none hp ht)).trans hp
  have rp0 := m0.ro hp rp
  refine ⟨_, rfl, p, _, dx, _, rfl, hp0, T.cl_Recipes, T.na_Recipes_parts, (show (0 : Nat) < 1000 by decide), ?_⟩
  have m1 := m0.wr hp0 (fun xs z => by cases z) (.inr rp0) (.ins (He.ga K "Recipes") dx (putF "parts" (.ref t) []))
  have ht1 : upd (upd H t (.tup [b, d, e, g])) p (.ins (He.ga K "Recipes") dx (putF "parts" (.ref t) [])) t = some (.tup [b, d, e, g]) := (upd_ne (ne_of upd_same hp0 (by intro z; cases z))).trans upd_same
  have hp1 : upd (upd H t (.tup [b, d, e, g])) p (.ins (He.ga K "Recipes") dx (putF "parts" (.ref t) [])) p = some (.ins (He.ga K "Recipes") dx (putF "parts" (.ref t) [])) := upd_same
  refine ⟨_, rfl, p, _, dx, _, _, rfl, hp1, T.cl_Recipes, T.na_Recipes_parts, rfl, _, _, rfl, SqT.of ht1, ?_⟩
  generalize upd (upd H t (.tup [b, d, e, g])) p (.ins (He.ga K "Recipes") dx (putF "parts" (.ref t) [])) = H1 at m1 ht1 hp1 ⊢
  generalize rs ρ t 0 = ρ1 at m1
  refine for_it walk_enumT (fun i σ H' => (∃ x y ρ', σ = [some (.ref p), some b, some d, some e, some g, x, y] ∧ Mv S0 ρ1 H1 ρ' H')) ⟨_, _, _, rfl, Mv.refl⟩ (fun i σ H' _ ⟨_, _, _, _, m⟩ => SqT.of (m.tups _ _ ht1)) (fun i x σ H2 H3 hi ⟨x0, y0, ρ2, e, m⟩ y => ?_) (fun σ H2 ⟨x0, y0, ρ2, e, m⟩ => ?_)
  · obtain ⟨U, x, y, rfl, hU, rfl, hx, hy⟩ := y
    subst e
    cases hx
    obtain ⟨u, hu, hut⟩ := hr4.at (show i < 4 from hi)
    cases hu.symm.trans hy
    refine pair_at ?_
    have m2 := m.new hU 0 (.tup [.int (i : Nat), .ref u])
    refine ⟨_, rfl, _, rfl, _, _, rfl, i, u, _, _, rfl, rfl, hi, ok.at hi, m2.tups _ _ (m1.tups _ _ hut), fun ρ3 H3 m3 => ⟨_, _, _, rfl, m2.trans m3⟩⟩
  · have m2 := m1.trans (m.mono (S' := fun n => n = 1101) fun n z => z.elim)
    exact k _ _ ⟨dx, t, _, m.at0 hp1, m2.ro hp rp, m.tups _ _ ht1, hr4.mv m2.tups⟩ m2
def sp_Rc (K : PySem.W.Frag) : Sp := Sp1 fun a H Q => ∃ (c : Cfg) (ρ : Ro) (p : Addr), a = .ref p ∧ RecsAt K ρ H p c ∧ ∀ t, H t = some (.tup (wdV c.cl)) → Q (.ref t) H
theorem sc_Rc_clean : FnScope ["self"] ["self"] (defScope s_Rc_clean) := ⟨rfl, rfl, rfl, by decide +kernel, rfl, by decide +kernel, by decide +kernel⟩
theorem p_Rc_clean (T : Txt K mg) : Pro P w K mg base 1 (He.ga K "Recipes") "clean" (sp_Rc K) := by
  refine pro_of T.F_Rc_clean T.cl_Recipes T.pr_Recipes_clean sc_Rc_clean len1 (fun _ _ _ _ _ _ us hl => match us, hl with | [_], _ => rfl) (fun cdv A outer s H vs Q E hr h => ?_)
  obtain ⟨a, rfl, c, ρ, p, rfl, ⟨dx, t, vs, h1, h2, h3, h4⟩, k⟩ := h
  obtain ⟨u, e1, e2⟩ := h4.at (i := 3) (by decide)
  refine ⟨_, pss_one (ps_ret (pe_ix ix_tup (pe_fld (pv 0) rfl) (pe_int) (fun _ _ => rfl))), ?_⟩
  exact ⟨_, rfl, p, _, dx, _, _, rfl, h1, T.cl_Recipes, T.na_Recipes_parts, rfl, _, _, _, _, rfl, rfl, SqT.of h3, atI_nat (j := 3) e1, k u e2⟩
def sp_recipe_of (K : PySem.W.Frag) : Sp := Sp2 fun a b H Q => ∃ (c : Cfg) (ρ : Ro) (p : Addr) (y : Way), a = .ref p ∧ b = .str (wayS y) ∧ RecsAt K ρ H p c ∧ ∀ t, H t = some (.tup (wdV (c.rcp y))) → Q (.ref t) H
def wayN : Way → Nat
  | .thr => 0
  | .back => 1
  | .arou => 2
theorem kinds_ix (y : Way) : (["through", "back", "around", "clean"] : List Str)[wayN y]? = some (wayS y) ∧ ∀ m, m < wayN y → (["through", "back", "around", "clean"] : List Str)[m]? ≠ some (wayS y) := by
  cases y <;> decide +kernel
theorem sc_P_recipe_of : FnScope ["recipes", "word"] ["recipes", "word"] (defScope s_P_recipe_of) := ⟨rfl, rfl, rfl, by decide +kernel, rfl, by decide +kernel, by decide +kernel⟩
theorem c_P_recipe_of (T : Txt K mg) : C8.Cal P w K mg base 1 "recipe_of" (sp_recipe_of K) [] := by
  refine cal_of T.F_P_recipe_of T.g_recipe_of sc_P_recipe_of len2 (fun _ _ _ _ _ _ us hl => match us, hl with | [_, _], _ => rfl) (fun cdv A outer s H vs Q E hr h => ?_)
  obtain ⟨a, b, rfl, c, ρ, p, y, rfl, rfl, ⟨dx, t, vs, h1, h2, h3, h4⟩, k⟩ := h
  obtain ⟨u, e1, e2⟩ := h4.at (i := wayN y) (by cases y <;> decide)
  refine ⟨_, pss_one (ps_ret (pe_ix ix_tup (pe_fld (pv 0) rfl) (pe_bm PySem.F.plainAttrs_tuple PySem.F.slot_tuple_index PySem.F.type_tuple_index mt_tup_index (C8.pe_gc rfl (gcr T.ga_KINDS)) (pa_cons (pv 1) pa_nil)) (fun _ _ => rfl))), ?_⟩
  refine ⟨_, rfl, p, _, dx, _, _, rfl, h1, T.cl_Recipes, T.na_Recipes_parts, rfl, ?_⟩
  refine ⟨.inr (.inl ⟨rfl, T.y_KINDS⟩), _, rfl, He.ga K "KINDS", ["through", "back", "around", "clean"], wayS y, wayN y, rfl, rfl, T.t_KINDS _, (kinds_ix y).1, (kinds_ix y).2, ?_⟩
  refine ⟨_, _, _, _, rfl, rfl, SqT.of h3, atI_nat e1, k u ?_⟩
  rw [e2]
  cases y <;> rfl
def sp_sizes : Sp := Sp4 fun a b d e H Q => ∃ i j m n : Int, a = .int i ∧ b = .int j ∧ d = .int m ∧ e = .int n ∧ 1 ≤ i ∧ i ≤ m ∧ 1 ≤ j ∧ j ≤ n ∧ Q .non H
theorem sc_P_check_sizes : FnScope ["blocks", "slots", "most_blocks", "most_slots"] ["blocks", "slots", "most_blocks", "most_slots"] (defScope s_P_check_sizes) := ⟨rfl, rfl, rfl, by decide +kernel, rfl, by decide +kernel, by decide +kernel⟩
theorem f_P_check_sizes (T : Txt K mg) : FnOk P w K mg base CX0 3 (He.ga K "check_sizes") (fdOf K (He.ga K "check_sizes")) ["blocks", "slots", "most_blocks", "most_slots"] (sp_sizes) := by
  refine fn_ok T.F_P_check_sizes sc_P_check_sizes len4 (fun cdv A outer s H vs Q E hr h => ?_)
  obtain ⟨a, b, d, e, rfl, i, j, m, n, rfl, rfl, rfl, rfl, i1, im, j1, jn, k⟩ := h
  refine ⟨_, pss_cons (ps_if (pt_not (pt_val (C8.pe_c (c_P_is_int_in T) hr (by decide) rfl (pa_cons (pv 0) (pa_cons (pe_int) (pa_cons (pv 2) pa_nil)))))) (pss_one (ps_never)) (pss_nil))
      (pss_one (ps_if (pt_not (pt_val (C8.pe_c (c_P_is_int_in T) hr (by decide) rfl (pa_cons (pv 1) (pa_cons (pe_int) (pa_cons (pv 3) pa_nil)))))) (pss_one (ps_never)) (pss_nil))), ?_⟩
  refine ⟨_, rfl, _, rfl, _, _, _, rfl, _, _, _, rfl, rfl, rfl, _, rfl, ite_not (in_true i1 im) ?_⟩
  exact ⟨_, rfl, _, rfl, _, _, _, rfl, _, _, _, rfl, rfl, rfl, _, rfl, ite_not (in_true j1 jn) k⟩
theorem c_P_check_sizes (T : Txt K mg) : C8.Cal P w K mg base 3 "check_sizes" sp_sizes [.int 16, .int 8] := by
  obtain ⟨ds, h1, h2⟩ := T.F_P_check_sizes.binds1 (ps := ["blocks", "slots", "most_blocks", "most_slots"]) 2 0 (by simp) rfl (fun Tt kV doc pm an cdv ct us its l1 l2 => match us, l1, its, l2 with
    | [a, b], _, [c, d], _ => ⟨_, rfl, rfl⟩)
  exact ⟨_, _, _, ds, f_P_check_sizes T, T.g_check_sizes, T.F_P_check_sizes.kp, h2, h1⟩
end
end Kb
set_option Elab.async false
set_option linter.all false
set_option maxRecDepth 100000
set_option maxHeartbeats 4000000
/-! The dict of the best dirty records: block -> slot. -/
namespace Kb
open PySem PySem.Spec PyProof.Rows L2
def bestV (L : List (Nat × Nat)) : List (Key × V) := L.map fun p => (Sum.inl (p.1 : Int), V.int (p.2 : Int))
theorem bestV_val (b : Nat) : ∀ L : List (Nat × Nat), valV (bestV L) (Sum.inl (b : Int)) = (L.lookup b).map fun s => V.int (s : Int)
  | [] => rfl
  | p :: l => by
    show valV ((Sum.inl (p.1 : Int), V.int (p.2 : Int)) :: bestV l) _ = _
    rw [List.lookup_cons]
    by_cases h : p.1 = b
    · rw [valV_pos (key_inj.mpr h), h, beq_self_eq_true]
      rfl
    · rw [valV_neg (fun z => h (key_inj.mp z)), bestV_val b l]
      have e : (b == p.1) = false := by simpa using Ne.symm h
      rw [e]
theorem bestV_put (b s : Nat) (L : List (Nat × Nat)) : putK (bestV L) (Sum.inl (b : Int)) (.int (s : Int)) = bestV (if L.lookup b = none then L ++ [(b, s)] else L.map fun p => if p.1 = b then (b, s) else p) := by
  unfold putK
  rw [valV_any, bestV_val]
  cases h : L.lookup b with
  | none =>
    show (if (none : Option V).isSome = true then _ else bestV L ++ [(Sum.inl (b : Int), V.int (s : Int))]) = bestV (L ++ [(b, s)])
    rw [if_neg (by decide)]
    unfold bestV
    rw [List.map_append]
    rfl
  | some s0 =>
    show (if (some (V.int (s0 : Int))).isSome = true then _ else _) = bestV (L.map fun p => if p.1 = b then (b, s) else p)
    rw [if_pos (show (some (V.int (s0 : Int))).isSome = true from rfl)]
    unfold bestV
    rw [List.map_map, List.map_map]
    refine List.map_congr_left fun p _ => ?_
    show (if (Sum.inl (p.1 : Int) : Key) = Sum.inl (b : Int) then ((Sum.inl (p.1 : Int) : Key), V.int (s : Int)) else (Sum.inl (p.1 : Int), V.int (p.2 : Int))) = (Sum.inl ((if p.1 = b then (b, s) else p).1 : Int), V.int ((if p.1 = b then (b, s) else p).2 : Int))
    by_cases q : p.1 = b
    · rw [if_pos (key_inj.mpr q), if_pos q, q]
    · rw [if_neg (fun z => q (key_inj.mp z)), if_neg q]
def bestTo (rs : List (Option Rec)) (i : Nat) : List (Nat × Nat) := (List.range i).foldl (bestStep rs) []
theorem bestTo_succ (rs : List (Option Rec)) (i : Nat) : bestTo rs (i + 1) = bestStep rs (bestTo rs i) i := by
  unfold bestTo
  rw [List.range_succ, List.foldl_append]
  rfl
theorem bestStep_skip {rs : List (Option Rec)} {L : List (Nat × Nat)} {s : Nat} (h : ∀ r, recAt rs s = some r → r.d = false) : bestStep rs L s = L := by
  unfold bestStep
  cases q : recAt rs s with
  | none => rfl
  | some r =>
    show (if r.d = true then _ else L) = L
    rw [if_neg (by rw [h r q]; decide)]
theorem bestStep_none {rs : List (Option Rec)} {L : List (Nat × Nat)} {s : Nat} {r : Rec} (h : recAt rs s = some r) (d : r.d = true) (n : L.lookup r.b = none) : bestStep rs L s = L ++ [(r.b, s)] := by
  unfold bestStep
  rw [h]
  show (if r.d = true then _ else L) = _
  rw [if_pos d, n]
theorem bestStep_gt {rs : List (Option Rec)} {L : List (Nat × Nat)} {s s0 : Nat} {r r0 : Rec} (h : recAt rs s = some r) (d : r.d = true) (n : L.lookup r.b = some s0) (h0 : recAt rs s0 = some r0) (g : r0.t < r.t) : bestStep rs L s = L.map fun (p : Nat × Nat) => if p.1 = r.b then (r.b, s) else p := by
  unfold bestStep
  rw [h]
  show (if r.d = true then _ else L) = _
  rw [if_pos d, n]
  show (match recAt rs s0 with | some r0 => if r0.t < r.t then L.map (fun (p : Nat × Nat) => if p.1 = r.b then (r.b, s) else p) else L | none => L) = _
  rw [h0]
  show (if r0.t < r.t then _ else L) = _
  rw [if_pos g]
theorem bestStep_le {rs : List (Option Rec)} {L : List (Nat × Nat)} {s s0 : Nat} {r r0 : Rec} (h : recAt rs s = some r) (d : r.d = true) (n : L.lookup r.b = some s0) (h0 : recAt rs s0 = some r0) (g : ¬ r0.t < r.t) : bestStep rs L s = L := by
  unfold bestStep
  rw [h]
  show (if r.d = true then _ else L) = _
  rw [if_pos d, n]
  show (match recAt rs s0 with | some r0 => if r0.t < r.t then L.map (fun (p : Nat × Nat) => if p.1 = r.b then (r.b, s) else p) else L | none => L) = _
  rw [h0]
  show (if r0.t < r.t then _ else L) = _
  rw [if_neg g]
theorem lookup_mem {b s : Nat} : ∀ {L : List (Nat × Nat)}, L.lookup b = some s → (b, s) ∈ L
  | [], h => by cases h
  | p :: l, h => by
    rw [List.lookup_cons] at h
    by_cases q : b = p.1
    · subst q
      rw [beq_self_eq_true] at h
      rw [← Option.some.inj h]
      exact List.mem_cons_self
    · have e : (b == p.1) = false := by simpa using q
      rw [e] at h
      exact List.mem_cons_of_mem _ (lookup_mem h)
/-- what stands in it -/
structure BestI (rs : List (Option Rec)) (i : Nat) (L : List (Nat × Nat)) : Prop where
  mem : ∀ p ∈ L, ∃ r, recAt rs p.2 = some r ∧ r.b = p.1 ∧ r.d = true ∧ p.2 < i
  nd : (L.map (·.1)).Nodup
theorem lookup_none {b : Nat} : ∀ {L : List (Nat × Nat)}, L.lookup b = none → b ∉ L.map (·.1)
  | [], _ => by simp
  | p :: l, h => by
    rw [List.lookup_cons] at h
    by_cases q : b = p.1
    · subst q
      rw [beq_self_eq_true] at h
      cases h
    · have e : (b == p.1) = false := by simpa using q
      rw [e] at h
      intro m
      rcases List.mem_cons.mp m with z | z
      · exact q z
      · exact lookup_none h z
theorem map_keys (L : List (Nat × Nat)) (b s : Nat) : (L.map fun p => if p.1 = b then (b, s) else p).map (·.1) = L.map (·.1) := by
  rw [List.map_map]
  refine List.map_congr_left fun p _ => ?_
  show (if p.1 = b then (b, s) else p).1 = p.1
  by_cases q : p.1 = b
  · rw [if_pos q, q]
  · rw [if_neg q]
theorem bestI (rs : List (Option Rec)) : ∀ i, BestI rs i (bestTo rs i)
  | 0 => ⟨fun p h => absurd h List.not_mem_nil, List.nodup_nil⟩
  | i + 1 => by
    have ih := bestI rs i
    have up : BestI rs (i + 1) (bestTo rs i) := ⟨fun p h => let ⟨r, h1, h2, h3, h4⟩ := ih.mem p h; ⟨r, h1, h2, h3, Nat.lt_succ_of_lt h4⟩, ih.nd⟩
    rw [bestTo_succ]
    cases q : recAt rs i with
    | none =>
      rw [bestStep_skip fun r h => by rw [q] at h; cases h]
      exact up
    | some r =>
      cases d : r.d with
      | false =>
        rw [bestStep_skip fun r' h => by rw [q] at h; cases h; exact d]
        exact up
      | true =>
        cases n : (bestTo rs i).lookup r.b with
        | none =>
          rw [bestStep_none q d n]
          refine ⟨fun p h => ?_, ?_⟩
          · rcases List.mem_append.mp h with h | h
            · exact up.mem p h
            · rw [List.mem_singleton] at h
              subst h
              exact ⟨r, q, rfl, d, Nat.lt_succ_self i⟩
          · rw [List.map_append, List.nodup_append]
            refine ⟨ih.nd, by simp, fun a ha b hb => ?_⟩
            rw [List.map_singleton, List.mem_singleton] at hb
            intro z
            rw [hb] at z
            have z : a = r.b := z
            exact lookup_none n (by rw [← z]; exact ha)
        | some s0 =>
          obtain ⟨r0, h0, _⟩ := ih.mem _ (lookup_mem n)
          by_cases g : r0.t < r.t
          · rw [bestStep_gt q d n h0 g]
            refine ⟨fun p h => ?_, by rw [map_keys]; exact ih.nd⟩
            obtain ⟨p', h', e⟩ := List.mem_map.mp h
            by_cases z : p'.1 = r.b
            · rw [if_pos z] at e
              subst e
              exact ⟨r, q, rfl, d, Nat.lt_succ_self i⟩
            · rw [if_neg z] at e
              subst e
              exact up.mem _ h'
          · rw [bestStep_le q d n h0 g]
            exact up
theorem bestL_to (rs : List (Option Rec)) : bestL rs = bestTo rs rs.length := rfl
theorem bestI_len {rs : List (Option Rec)} {i : Nat} {L : List (Nat × Nat)} (h : BestI rs i L) : L.length ≤ i := by
  have key : ∀ (n : Nat) (L : List (Nat × Nat)), BestI rs n L → (L.map (·.2)).Nodup → L.length ≤ n := fun n L h nd => by
    have e := nodup_lt n (L.map (·.2)) nd fun x hx => by
      obtain ⟨p, hp, e⟩ := List.mem_map.mp hx
      obtain ⟨_, _, _, _, h4⟩ := h.mem p hp
      rw [← e]
      exact h4
    rw [List.length_map] at e
    exact e
  refine key i L h ?_
  have nd := h.nd
  have inj : ∀ p ∈ L, ∀ q ∈ L, p.2 = q.2 → p.1 = q.1 := fun p hp q hq e => by
    obtain ⟨r1, a1, a2, _⟩ := h.mem p hp
    obtain ⟨r2, b1, b2, _⟩ := h.mem q hq
    rw [e, b1] at a1
    cases a1
    rw [← a2, b2]
  clear h
  induction L with
  | nil => exact List.nodup_nil
  | cons p l ih =>
    rw [List.map_cons, List.nodup_cons] at nd ⊢
    refine ⟨fun m => ?_, ih nd.2 fun a ha b hb => inj a (List.mem_cons_of_mem _ ha) b (List.mem_cons_of_mem _ hb)⟩
    obtain ⟨q, hq, e⟩ := List.mem_map.mp m
    exact nd.1 (List.mem_map.mpr ⟨q, hq, (inj p List.mem_cons_self q (List.mem_cons_of_mem _ hq) e.symm).symm⟩)
end Kb
set_option Elab.async false
set_option linter.all false
set_option maxRecDepth 100000
set_option maxHeartbeats 4000000
namespace Kb
open PySem PySem.Spec PyProof.Rows L2
section
variable {P : Program} {w : World} {K : PySem.W.Frag} {mg : Str → Option Value} {base : Heap}
abbrev rs0 (ρ : Ro) (d : Addr) : Ro := rs ρ d 0
theorem nn_ref (t : Addr) : (!decide (V.ref t = V.non)) = true := by simp
theorem nn_non : (!decide (V.non = V.non)) = false := by simp
/-- the value of the i-th record -/
theorem rec_at {H : Hp} {rs : List (Option Rec)} {vs : List V} (h : All cR H rs vs) {i : Nat} {v : V} (hv : vs[i]? = some v) : (recAt rs i = none ∧ v = .non) ∨ ∃ r t, recAt rs i = some r ∧ v = .ref t ∧ H t = some (.tup (recV r)) := by
  obtain ⟨x, hx, q⟩ := h.get' hv
  unfold recAt
  rw [hx]
  cases x with
  | none => exact .inl ⟨rfl, q⟩
  | some r =>
    obtain ⟨t, e, z⟩ := q
    exact .inr ⟨r, t, rfl, e, z⟩
theorem recAt_some {rs : List (Option Rec)} {i : Nat} {r : Rec} (h : recAt rs i = some r) : rs[i]? = some (some r) := by
  unfold recAt at h
  cases q : rs[i]? with
  | none => rw [q] at h; cases h
  | some o => rw [q] at h; exact congrArg some h
theorem walk_range0 {n : Nat} : Walk (Itr 0 n) n (fun _ => True) (YFn fun i => V.int (i : Int)) := walk_range.mono (fun _ h => h) fun i H x H' _ _ y => ⟨y.1, y.2.trans (congrArg V.int (Int.zero_add _))⟩
def sp_best : Sp := Sp1 fun a H Q => ∃ (l : Addr) (rl : List (Option Rec)) (vs : List V) (ρ : Ro), a = .ref l ∧ H l = some (.lst vs) ∧ All cR H rl vs ∧ vs.length ≤ 1000 ∧
  ∀ d ρ' H', H d = none → Mv S0 ρ H ρ' H' → ρ' d = 0 → H' d = some (.dK (bestV (bestL rl))) → Q (.ref d) H'
theorem sc_P_best_dirty : FnScope ["records", "found", "slot", "record"] ["records"] (defScope s_P_best_dirty) := ⟨rfl, rfl, rfl, by decide +kernel, rfl, by decide +kernel, by decide +kernel⟩
theorem c_P_best_dirty (T : Txt K mg) : C8.Cal P w K mg base 1 "best_dirty" (sp_best) [] := by
  refine cal_of T.F_P_best_dirty T.g_best_dirty sc_P_best_dirty len1 (fun _ _ _ _ _ _ us hl => match us, hl with | [_], _ => rfl) (fun cdv A outer s H vs Q E hr h => ?_)
  obtain ⟨a, rfl, l, rl, vs, ρ, rfl, hl, ha, hz, k⟩ := h
  have hlen := ha.len
  refine ⟨_, pss_cons (ps_set (i := 1) sc_P_best_dirty.nd rfl (.inl rfl) (pe_dnewK))
      (pss_cons (ps_for PassesOwn.never rfl (pi_enum (by rfl) T.f_enumerate (pa_cons (pv 0) pa_nil)) (pg_tup (n := 2) rfl (pgs_cons (pg_name (i := 2) sc_P_best_dirty.nd rfl (.inl rfl)) (pgs_cons (pg_name (i := 3) sc_P_best_dirty.nd rfl (.inl rfl)) pgs_nil))) (pss_one (ps_if (PW.pt (pw_and (pt_cmpR op_notN (pv 3) (pe_non) (nomark _)) (pw_and1 (pt_val (pe_ix ix_tup (pv 3) (pe_int) (fun _ _ => rfl)))))) (pss_one (ps_if (PW.pt (pw_or (pt_cmp (pc_dnotin (hu_of hr) (pe_ix ix_tup (pv 3) (pe_int) (fun _ _ => rfl)) (pv 1))) (pw_or1 (pt_cmpR op_gt (pe_ix ix_tup (pv 3) (pe_int) (fun _ _ => rfl)) (pe_ix ix_tup (pe_ix ix_list (pv 0) (pe_dget (hu_of hr) (pv 1) (pe_ix ix_tup (pv 3) (pe_int) (fun _ _ => rfl)) (fun _ _ => rfl)) (fun _ _ => rfl)) (pe_int) (fun _ _ => rfl)) (nomark _))))) (pss_one (ps_dput (hu_of hr) (pv 1) (pe_ix ix_tup (pv 3) (pe_int) (fun _ _ => rfl)) (pv 2) rfl)) (pss_nil))) (pss_nil))))
      (pss_one (ps_ret (pv 1)))), ?_⟩
  refine fun d hd => ?_
  have m0 : Mv S0 ρ H (rs0 ρ d) _ := Mv.refl.new hd 0 (.dK [])
  have hl0 := (upd_ne (o := .dK []) (ne_of_none hl hd)).trans hl
  refine ⟨_, rfl, l, vs, rfl, SqL.of hl0, ?_⟩
  refine for_it walk_enum (fun i σ H' => ∃ x y ρ', σ = [some (.ref l), some (.ref d), x, y] ∧ Mv S0 ρ H ρ' H' ∧ ρ' d = 0 ∧ H' d = some (.dK (bestV (bestTo rl i)))) ⟨_, _, _, rfl, m0, rs_same, upd_same⟩ (fun i σ H' _ ⟨_, _, _, _, m, _, _⟩ => SqL.of (m.at0 hl)) (fun i x σ H1 H2 hi ⟨x0, y0, ρ0, e, m, r0, hd0⟩ y => ?_) (fun σ H1 ⟨x0, y0, ρ1, e, m1, r1, hd1⟩ => ?_)
  · obtain ⟨U, x, y, rfl, hU, rfl, hx, hy⟩ := y
    subst e
    cases hx
    refine pair_at ?_
    have m1 := m.new hU 0 (.tup [.int (i : Nat), y])
    have r1 := (rs_ne (r := 0) (ne_of_none hd0 hU)).trans r0
    have hd1 := (upd_ne (o := .tup [.int (i : Nat), y]) (ne_of_none hd0 hU)).trans hd0
    generalize upd H1 U (.tup [.int (i : Nat), y]) = HC at m1 hd1 ⊢
    generalize rs ρ0 U 0 = ρC at m1 r1
    -- the step at i: the record stands in slot 3
    rcases rec_at (ha.mono m1.tups) hy with ⟨hn, rfl⟩ | ⟨rc, u, hrc, rfl, hu⟩
    · refine ⟨_, rfl, rfl, _, rfl, ite_ff nn_non (iteF ⟨_, _, _, rfl, m1, r1, ?_⟩)⟩
      rw [bestTo_succ, bestStep_skip fun r h => by rw [hn] at h; cases h]
      exact hd1
    · refine ⟨_, rfl, rfl, _, rfl, ite_tt (nn_ref u) ⟨_, rfl, u, _, _, _, rfl, rfl, SqT.of hu, rfl, rc.d, rfl, ?_⟩⟩
      cases hdd : rc.d with
      | false =>
        refine iteF ⟨_, _, _, rfl, m1, r1, ?_⟩
        rw [bestTo_succ, bestStep_skip fun r h => by rw [hrc] at h; cases h; exact hdd]
        exact hd1
      | true =>
        refine iteT ?_
        have bi := bestI rl i
        have key : ∀ (σ0 : L2.St), σ0 = [some (.ref l), some (.ref d), some (.int (i : Nat)), some (.ref u)] → (bestStep rl (bestTo rl i) i = if (bestTo rl i).lookup rc.b = none then bestTo rl i ++ [(rc.b, i)] else (bestTo rl i).map fun p => if p.1 = rc.b then (rc.b, i) else p) →
            ∃ x y ρ', σ0 = [some (.ref l), some (.ref d), x, y] ∧ Mv S0 ρ H ρ' (upd HC d (.dK (putK (bestV (bestTo rl i)) (Sum.inl (rc.b : Int)) (.int (i : Int))))) ∧ ρ' d = 0 ∧ upd HC d (.dK (putK (bestV (bestTo rl i)) (Sum.inl (rc.b : Int)) (.int (i : Int)))) d = some (.dK (bestV (bestTo rl (i + 1)))) := fun σ0 e0 e1 => by
          refine ⟨_, _, _, e0, m1.wr hd1 (fun xs z => by cases z) (.inl hd) _, r1, ?_⟩
          rw [upd_same, bestTo_succ, e1, bestV_put]
        have put : DPut HC d (.int (rc.b : Int)) (.int (i : Int)) (upd HC d (.dK (putK (bestV (bestTo rl i)) (Sum.inl (rc.b : Int)) (.int (i : Int))))) := DPut.k (k := Sum.inl (rc.b : Int)) hd1 (by
          unfold bestV sizeLine
          rw [List.length_map]
          have q1 := bestI_len bi
          have q2 : i < vs.length := hi
          omega)
        have dg : DGet HC d (.int (rc.b : Int)) (valV (bestV (bestTo rl i)) (Sum.inl (rc.b : Int))) := DGet.k (k := Sum.inl (rc.b : Int)) hd1
        rw [bestV_val] at dg
        refine ⟨_, rfl, u, _, _, _, rfl, rfl, SqT.of hu, rfl, _, rfl, d, _, rfl, dg, _, rfl, ?_⟩
        cases n : (bestTo rl i).lookup rc.b with
        | none =>
          refine iteT (iteT ⟨_, rfl, _, rfl, _, rfl, u, _, _, _, rfl, rfl, SqT.of hu, rfl, d, _, rfl, put, ?_⟩)
          exact key _ rfl (by rw [bestStep_none hrc hdd n, if_pos n])
        | some s0 =>
          obtain ⟨r0, h0, _, _, _⟩ := bi.mem _ (lookup_mem n)
          have h0 : recAt rl s0 = some r0 := h0
          rw [n] at dg
          obtain ⟨v0, hv0, q0⟩ := (ha.mono m1.tups).get (recAt_some h0)
          obtain ⟨u0, rfl, hu0⟩ := q0
          refine iteF ⟨_, rfl, u, _, _, _, rfl, rfl, SqT.of hu, rfl, _, rfl, _, rfl, _, rfl, u, _, _, _, rfl, rfl, SqT.of hu, rfl, d, _, rfl, dg, l, vs, _, _, rfl, rfl, SqL.of (m1.at0 hl), atI_nat hv0, u0, _, _, _, rfl, rfl, SqT.of hu0, rfl, _, _, rfl, rfl, _, rfl, ?_⟩
          by_cases g : r0.t < rc.t
          · refine ite_tt (decide_eq_true g) ⟨_, rfl, _, rfl, _, rfl, u, _, _, _, rfl, rfl, SqT.of hu, rfl, d, _, rfl, put, ?_⟩
            exact key _ rfl (by rw [bestStep_gt hrc hdd n h0 g, if_neg (by rw [n]; intro z; cases z)])
          · refine ite_ff (decide_eq_false g) ⟨_, _, _, rfl, m1, r1, ?_⟩
            rw [bestTo_succ, bestStep_le hrc hdd n h0 g]
            exact hd1
  · subst e
    exact ⟨_, rfl, k d ρ1 H1 hd m1 r1 (by rw [bestL_to, hlen]; exact hd1)⟩
theorem sc_L_best : FnScope ["_law_records", "_law_best_here", "_law_slot_here", "_law_record"] ["_law_records"] (defScope s_L_best) := ⟨rfl, rfl, rfl, by decide +kernel, rfl, by decide +kernel, by decide +kernel⟩
theorem c_L_best (T : Txt K mg) : C8.Cal P w K mg base 1 "_law_best" (sp_best) [] := by
  refine cal_of T.F_L_best T.g_Lbest sc_L_best len1 (fun _ _ _ _ _ _ us hl => match us, hl with | [_], _ => rfl) (fun cdv A outer s H vs Q E hr h => ?_)
  obtain ⟨a, rfl, l, rl, vs, ρ, rfl, hl, ha, hz, k⟩ := h
  have hlen := ha.len
  refine ⟨_, pss_cons (ps_set (i := 1) sc_L_best.nd rfl (.inl rfl) (pe_dnewK))
      (pss_cons (ps_for PassesOwn.never rfl (pi_range1 rfl T.f_range (pa_cons (pe_callB call_len_seq (by rfl) T.f_len (by decide +kernel) (pa_cons (pv 0) pa_nil)) pa_nil)) (pg_name (i := 2) sc_L_best.nd rfl (.inl rfl)) (pss_cons (ps_set (i := 3) sc_L_best.nd rfl (.inl rfl) (pe_ix ix_list (pv 0) (pv 2) (fun _ _ => rfl)))
      (pss_one (ps_if (PW.pt (pw_and (pt_cmpR op_notN (pv 3) (pe_non) (nomark _)) (pw_and1 (pt_val (pe_ix ix_tup (pv 3) (pe_int) (fun _ _ => rfl)))))) (pss_one (ps_if (PW.pt (pw_or (pt_cmp (pc_dnotin (hu_of hr) (pe_ix ix_tup (pv 3) (pe_int) (fun _ _ => rfl)) (pv 1))) (pw_or1 (pt_cmpR op_gt (pe_ix ix_tup (pv 3) (pe_int) (fun _ _ => rfl)) (pe_ix ix_tup (pe_ix ix_list (pv 0) (pe_dget (hu_of hr) (pv 1) (pe_ix ix_tup (pv 3) (pe_int) (fun _ _ => rfl)) (fun _ _ => rfl)) (fun _ _ => rfl)) (pe_int) (fun _ _ => rfl)) (nomark _))))) (pss_one (ps_dput (hu_of hr) (pv 1) (pe_ix ix_tup (pv 3) (pe_int) (fun _ _ => rfl)) (pv 2) rfl)) (pss_nil))) (pss_nil)))))
      (pss_one (ps_ret (pv 1)))), ?_⟩
  refine fun d hd => ?_
  have m0 : Mv S0 ρ H (rs0 ρ d) _ := Mv.refl.new hd 0 (.dK [])
  have hl0 := (upd_ne (o := .dK []) (ne_of_none hl hd)).trans hl
  refine ⟨_, rfl, l, vs, rfl, .inl (SqL.of hl0), _, rfl, by omega, by omega, ?_⟩
  refine for_it (walk_range0 (n := vs.length)) (fun i σ H' => ∃ x y ρ', σ = [some (.ref l), some (.ref d), x, y] ∧ Mv S0 ρ H ρ' H' ∧ ρ' d = 0 ∧ H' d = some (.dK (bestV (bestTo rl i)))) ⟨_, _, _, rfl, m0, rs_same, upd_same⟩ (fun i σ H' _ _ => trivial) (fun i x σ Hz HC hi ⟨x0, y0, ρC, e, m1, r1, hd1⟩ y => ?_) (fun σ H1 ⟨x0, y0, ρ1, e, m1, r1, hd1⟩ => ?_)
  · obtain ⟨rfl, rfl⟩ := y
    subst e
    have hy : vs[i]? = some vs[i] := List.getElem?_eq_getElem hi
    generalize vs[i] = y at hy
    refine ⟨_, rfl, _, rfl, l, vs, _, _, rfl, rfl, SqL.of (m1.at0 hl), atI_nat hy, ?_⟩
    -- the step at i: the record stands in slot 3
    rcases rec_at (ha.mono m1.tups) hy with ⟨hn, rfl⟩ | ⟨rc, u, hrc, rfl, hu⟩
    · refine ⟨_, rfl, rfl, _, rfl, ite_ff nn_non (iteF ⟨_, _, _, rfl, m1, r1, ?_⟩)⟩
      rw [bestTo_succ, bestStep_skip fun r h => by rw [hn] at h; cases h]
      exact hd1
    · refine ⟨_, rfl, rfl, _, rfl, ite_tt (nn_ref u) ⟨_, rfl, u, _, _, _, rfl, rfl, SqT.of hu, rfl, rc.d, rfl, ?_⟩⟩
      cases hdd : rc.d with
      | false =>
        refine iteF ⟨_, _, _, rfl, m1, r1, ?_⟩
        rw [bestTo_succ, bestStep_skip fun r h => by rw [hrc] at h; cases h; exact hdd]
        exact hd1
      | true =>
        refine iteT ?_
        have bi := bestI rl i
        have key : ∀ (σ0 : L2.St), σ0 = [some (.ref l), some (.ref d), some (.int (i : Nat)), some (.ref u)] → (bestStep rl (bestTo rl i) i = if (bestTo rl i).lookup rc.b = none then bestTo rl i ++ [(rc.b, i)] else (bestTo rl i).map fun p => if p.1 = rc.b then (rc.b, i) else p) →
            ∃ x y ρ', σ0 = [some (.ref l), some (.ref d), x, y] ∧ Mv S0 ρ H ρ' (upd HC d (.dK (putK (bestV (bestTo rl i)) (Sum.inl (rc.b : Int)) (.int (i : Int))))) ∧ ρ' d = 0 ∧ upd HC d (.dK (putK (bestV (bestTo rl i)) (Sum.inl (rc.b : Int)) (.int (i : Int)))) d = some (.dK (bestV (bestTo rl (i + 1)))) := fun σ0 e0 e1 => by
          refine ⟨_, _, _, e0, m1.wr hd1 (fun xs z => by cases z) (.inl hd) _, r1, ?_⟩
          rw [upd_same, bestTo_succ, e1, bestV_put]
        have put : DPut HC d (.int (rc.b : Int)) (.int (i : Int)) (upd HC d (.dK (putK (bestV (bestTo rl i)) (Sum.inl (rc.b : Int)) (.int (i : Int))))) := DPut.k (k := Sum.inl (rc.b : Int)) hd1 (by
          unfold bestV sizeLine
          rw [List.length_map]
          have q1 := bestI_len bi
          have q2 : i < vs.length := hi
          omega)
        have dg : DGet HC d (.int (rc.b : Int)) (valV (bestV (bestTo rl i)) (Sum.inl (rc.b : Int))) := DGet.k (k := Sum.inl (rc.b : Int)) hd1
        rw [bestV_val] at dg
        refine ⟨_, rfl, u, _, _, _, rfl, rfl, SqT.of hu, rfl, _, rfl, d, _, rfl, dg, _, rfl, ?_⟩
        cases n : (bestTo rl i).lookup rc.b with
        | none =>
          refine iteT (iteT ⟨_, rfl, _, rfl, _, rfl, u, _, _, _, rfl, rfl, SqT.of hu, rfl, d, _, rfl, put, ?_⟩)
          exact key _ rfl (by rw [bestStep_none hrc hdd n, if_pos n])
        | some s0 =>
          obtain ⟨r0, h0, _, _, _⟩ := bi.mem _ (lookup_mem n)
          have h0 : recAt rl s0 = some r0 := h0
          rw [n] at dg
          obtain ⟨v0, hv0, q0⟩ := (ha.mono m1.tups).get (recAt_some h0)
          obtain ⟨u0, rfl, hu0⟩ := q0
          refine iteF ⟨_, rfl, u, _, _, _, rfl, rfl, SqT.of hu, rfl, _, rfl, _, rfl, _, rfl, u, _, _, _, rfl, rfl, SqT.of hu, rfl, d, _, rfl, dg, l, vs, _, _, rfl, rfl, SqL.of (m1.at0 hl), atI_nat hv0, u0, _, _, _, rfl, rfl, SqT.of hu0, rfl, _, _, rfl, rfl, _, rfl, ?_⟩
          by_cases g : r0.t < rc.t
          · refine ite_tt (decide_eq_true g) ⟨_, rfl, _, rfl, _, rfl, u, _, _, _, rfl, rfl, SqT.of hu, rfl, d, _, rfl, put, ?_⟩
            exact key _ rfl (by rw [bestStep_gt hrc hdd n h0 g, if_neg (by rw [n]; intro z; cases z)])
          · refine ite_ff (decide_eq_false g) ⟨_, _, _, rfl, m1, r1, ?_⟩
            rw [bestTo_succ, bestStep_le hrc hdd n h0 g]
            exact hd1
  · subst e
    exact ⟨_, rfl, k d ρ1 H1 hd m1 r1 (by rw [bestL_to, hlen]; exact hd1)⟩
end
end Kb
set_option Elab.async false
set_option linter.all false
set_option maxRecDepth 100000
set_option maxHeartbeats 4000000
/-! Changes of the pair's and the model's state, one part at a time. -/
namespace Kb
open PySem PySem.Spec PyProof.Rows L2
def oV : Option Nat → V
  | none => .non
  | some s => .int (s : Int)
def Uq (kn : Kn) : Prop := ∀ s s' e e', Kn.at kn s = some e → Kn.at kn s' = some e' → e.r.b = e'.r.b → s = s'
def isB (kn : Kn) (b : Nat) (s : Nat) : Bool := match Kn.at kn s with
  | some e => e.r.b == b
  | none => false
theorem slotOf_eq (kn : Kn) (b : Nat) : slotOf kn b = (List.range kn.length).find? (isB kn b) := rfl
theorem slotOf_some {kn : Kn} {b s : Nat} {e : Ent} (u : Uq kn) (h : Kn.at kn s = some e) (hb : e.r.b = b) : slotOf kn b = some s := by
  have hB : isB kn b s = true := by
    unfold isB
    rw [h]
    exact beq_iff_eq.mpr hb
  rw [slotOf_eq]
  cases q : (List.range kn.length).find? (isB kn b) with
  | none =>
    have z := List.find?_eq_none.mp q s (List.mem_range.mpr (at_lt h))
    exact absurd hB z
  | some s' =>
    have z := List.find?_some q
    unfold isB at z
    cases q2 : Kn.at kn s' with
    | none => rw [q2] at z; cases z
    | some e' =>
      rw [q2] at z
      rw [u s' s e' e q2 h ((beq_iff_eq.mp z).trans hb.symm)]
theorem slotOf_none {kn : Kn} {b : Nat} (h : ∀ s e, Kn.at kn s = some e → e.r.b ≠ b) : slotOf kn b = none := by
  rw [slotOf_eq, List.find?_eq_none]
  intro s _ z
  unfold isB at z
  cases q : Kn.at kn s with
  | none => rw [q] at z; cases z
  | some e =>
    rw [q] at z
    exact h s e q (beq_iff_eq.mp z)
theorem slotOf_at {kn : Kn} {b s : Nat} (h : slotOf kn b = some s) : ∃ e, Kn.at kn s = some e ∧ e.r.b = b := by
  rw [slotOf_eq] at h
  have z := List.find?_some h
  unfold isB at z
  cases q : Kn.at kn s with
  | none => rw [q] at z; cases z
  | some e =>
    rw [q] at z
    exact ⟨e, rfl, beq_iff_eq.mp z⟩
section
variable {K : PySem.W.Frag} {c : Cfg} {ρ ρ' : Ro} {H H' : Hp} {p : Addr} {A : PA} {m m' : Mem} {D : Ds} {on on' : Bool}
theorem sdN {r i : Nat} (h : i < r ∨ r + 4 < i) : ¬ SD r i := fun z => by unfold SD at z; omega
theorem PairS.slow' (h : PairS K c ρ H p A m D on) {S : Dk Int} (d : DiskAt K cI 1010 ρ' H' A.ds S) (v : Mv (SD 1010) ρ H ρ' H') : PairS K c ρ' H' p A m { D with slow := S } on := by
  obtain ⟨dn, ho⟩ := h.obj
  obtain ⟨ws, hl, hw⟩ := h.wr
  exact ⟨⟨dn, v.keeps ho h.role (sdN (by decide))⟩, v.ro ho h.role, v.keeps h.past h.rp (sdN (by decide)), v.ro h.past h.rp, ⟨ws, hl, v.keeps hw h.rw_ (sdN (by decide))⟩, v.ro hw h.rw_, h.rul.mv v (sdN (by decide)), h.ord.mv v (sdN (by decide)), d,
    h.fast.mv v fun i hi => sdN (by omega), h.kn.mv v fun i hi => sdN (by omega)⟩
theorem PairS.fast' (h : PairS K c ρ H p A m D on) {S : Dk (Option Rec)} (d : DiskAt K cR 1020 ρ' H' A.df S) (v : Mv (SD 1020) ρ H ρ' H') : PairS K c ρ' H' p A m { D with fast := S } on := by
  obtain ⟨dn, ho⟩ := h.obj
  obtain ⟨ws, hl, hw⟩ := h.wr
  exact ⟨⟨dn, v.keeps ho h.role (sdN (by decide))⟩, v.ro ho h.role, v.keeps h.past h.rp (sdN (by decide)), v.ro h.past h.rp, ⟨ws, hl, v.keeps hw h.rw_ (sdN (by decide))⟩, v.ro hw h.rw_, h.rul.mv v (sdN (by decide)), h.ord.mv v (sdN (by decide)),
    h.slow.mv v fun i hi => sdN (by omega), d, h.kn.mv v fun i hi => sdN (by omega)⟩
theorem skN {r i : Nat} (h : i < r ∨ r + 8 < i) : ¬ SK r i := fun z => by unfold SK at z; omega
theorem PairS.know' (h : PairS K c ρ H p A m D on) {kn : Kn} (hl : kn.length = m.kn.length) (d : KnownAt 1030 ρ' H' A.ak kn) (v : Mv (SK 1030) ρ H ρ' H') : PairS K c ρ' H' p A { m with kn := kn } D on := by
  obtain ⟨dn, ho⟩ := h.obj
  obtain ⟨ws, hw0, hw⟩ := h.wr
  exact ⟨⟨dn, v.keeps ho h.role (skN (by decide))⟩, v.ro ho h.role, v.keeps h.past h.rp (skN (by decide)), v.ro h.past h.rp, ⟨ws, hw0.trans hl.symm, v.keeps hw h.rw_ (skN (by decide))⟩, v.ro hw h.rw_, h.rul.mv v (skN (by decide)), h.ord.mv v (skN (by decide)),
    h.slow.mv v fun i hi => skN (by omega), h.fast.mv v fun i hi => skN (by omega), d⟩
def S1 (r : Nat) : Nat → Prop := fun n => n = r
theorem s1N {r i : Nat} (h : i ≠ r) : ¬ S1 r i := h
/-- the object itself: numbers and flags -/
theorem PairS.obj' (h : PairS K c ρ H p A m D on) (tn bg fd : Int) (on' : Bool) (dn : V) : PairS K c ρ (upd H p (.ins (He.ga K "Pair") A.dx (pairF A tn bg fd on' dn))) p A ⟨m.kn, tn, bg, fd⟩ D on' ∧ Mv (S1 1000) ρ H ρ (upd H p (.ins (He.ga K "Pair") A.dx (pairF A tn bg fd on' dn))) := by
  obtain ⟨dn0, ho⟩ := h.obj
  obtain ⟨ws, hl, hw⟩ := h.wr
  have v : Mv (S1 1000) ρ H ρ (upd H p (.ins (He.ga K "Pair") A.dx (pairF A tn bg fd on' dn))) := Mv.refl.wr ho (fun xs z => by cases z) (.inr h.role) _
  exact ⟨⟨⟨dn, upd_same⟩, h.role, v.keeps h.past h.rp (s1N (by decide)), h.rp, ⟨ws, hl, v.keeps hw h.rw_ (s1N (by decide))⟩, h.rw_, h.rul.mv v (s1N (by decide)), h.ord.mv v (s1N (by decide)),
    h.slow.mv v fun i hi => s1N (by omega), h.fast.mv v fun i hi => s1N (by omega), h.kn.mv v fun i hi => s1N (by omega)⟩, v⟩
/-- another dict stands for the known slots -/
theorem PairS.dict' (h : PairS K c ρ H p A m D on) {k : Addr} {kn : Kn} (hl : kn.length = m.kn.length) (hk : KnownAt 1030 ρ H k kn) (tn bg fd : Int) (on' : Bool) (dn : V) : PairS K c ρ (upd H p (.ins (He.ga K "Pair") A.dx (pairF { A with ak := k } tn bg fd on' dn))) p { A with ak := k } ⟨kn, tn, bg, fd⟩ D on' ∧ Mv (S1 1000) ρ H ρ (upd H p (.ins (He.ga K "Pair") A.dx (pairF { A with ak := k } tn bg fd on' dn))) := by
  obtain ⟨dn0, ho⟩ := h.obj
  obtain ⟨ws, hl0, hw⟩ := h.wr
  have v : Mv (S1 1000) ρ H ρ (upd H p (.ins (He.ga K "Pair") A.dx (pairF { A with ak := k } tn bg fd on' dn))) := Mv.refl.wr ho (fun xs z => by cases z) (.inr h.role) _
  exact ⟨⟨⟨dn, upd_same⟩, h.role, v.keeps h.past h.rp (s1N (by decide)), h.rp, ⟨ws, hl0.trans hl.symm, v.keeps hw h.rw_ (s1N (by decide))⟩, h.rw_, h.rul.mv v (s1N (by decide)), h.ord.mv v (s1N (by decide)),
    h.slow.mv v fun i hi => s1N (by omega), h.fast.mv v fun i hi => s1N (by omega), hk.mv v fun i hi => s1N (by omega)⟩, v⟩
theorem PairS.wr' (h : PairS K c ρ H p A m D on) {ws : List Int} (hl : ws.length = m.kn.length) : PairS K c ρ (upd H A.aw (.lst (ws.map V.int))) p A m D on ∧ Mv (S1 1002) ρ H ρ (upd H A.aw (.lst (ws.map V.int))) := by
  obtain ⟨dn, ho⟩ := h.obj
  obtain ⟨ws0, hl0, hw⟩ := h.wr
  have v : Mv (S1 1002) ρ H ρ (upd H A.aw (.lst (ws.map V.int))) := Mv.refl.wr hw (fun xs z => by cases z) (.inr h.rw_) _
  exact ⟨⟨⟨dn, v.keeps ho h.role (s1N (by decide))⟩, h.role, v.keeps h.past h.rp (s1N (by decide)), h.rp, ⟨ws, hl, upd_same⟩, h.rw_, h.rul.mv v (s1N (by decide)), h.ord.mv v (s1N (by decide)),
    h.slow.mv v fun i hi => s1N (by omega), h.fast.mv v fun i hi => s1N (by omega), h.kn.mv v fun i hi => s1N (by omega)⟩, v⟩
theorem PairS.mv0 (h : PairS K c ρ H p A m D on) (v : Mv S0 ρ H ρ' H') : PairS K c ρ' H' p A m D on := h.mv v (fun _ _ _ z => z) (fun z => z)
theorem PairAt.mv0 (h : PairAt K c ρ H p m D on) (v : Mv S0 ρ H ρ' H') : PairAt K c ρ' H' p m D on := h.mv v (fun _ _ _ z => z) (fun z => z)
theorem sd_sp {r : Nat} (h : 1000 ≤ r) (h2 : r + 4 < 1100) : ∀ n, SD r n → SP n := fun n z => by unfold SD at z; unfold SP; omega
theorem sk_sp : ∀ n, SK 1030 n → SP n := fun n z => by unfold SK at z; unfold SP; omega
theorem s1_sp {r : Nat} (h : 1000 ≤ r) (h2 : r < 1100) : ∀ n, S1 r n → SP n := fun n z => by unfold S1 at z; unfold SP; omega
theorem s0_sp {S : Nat → Prop} : ∀ n, S0 n → S n := fun n z => z.elim
/-- the i-th item of the known dict -/
theorem kvs_at {ea : Nat → Addr} {L : List (Nat × Ent)} {i : Nat} {kv : Key × V} (h : (kvs ea L)[i]? = some kv) : ∃ s e, L[i]? = some (s, e) ∧ kv = (Sum.inl (s : Int), V.ref (ea s)) := by
  unfold kvs at h
  rw [List.getElem?_map] at h
  cases q : L[i]? with
  | none => rw [q] at h; cases h
  | some x =>
    rw [q] at h
    exact ⟨x.1, x.2, rfl, (Option.some.inj h).symm⟩
theorem item_at {l : List (Key × V)} {i : Nat} {x y : V} (hx : (fun i => l[i]?.map fun kv => kV kv.1) i = some x) (hy : (fun i => l[i]?.map Prod.snd) i = some y) : ∃ kv, l[i]? = some kv ∧ x = kV kv.1 ∧ y = kv.2 := by
  have hx : (l[i]?.map fun kv => kV kv.1) = some x := hx
  have hy : l[i]?.map Prod.snd = some y := hy
  cases q : l[i]? with
  | none => rw [q] at hx; cases hx
  | some kv =>
    rw [q] at hx hy
    exact ⟨kv, rfl, (Option.some.inj hx).symm, (Option.some.inj hy).symm⟩
theorem kvs_len {ea : Nat → Addr} {L : List (Nat × Ent)} : (kvs ea L).length = L.length := List.length_map ..
end
section
variable {c : Cfg} {ρ ρ' : Ro} {H H' : Hp} {a : Addr} {A : MA} {m : Mem} {D : Ds} {on : Bool}
theorem ModS.slow' (h : ModS c ρ H a A m D on) {S : Dk Int} (d : MDkAt cI 2010 ρ' H' A.s S) (v : Mv (SD 2010) ρ H ρ' H') : ModS c ρ' H' a A m { D with slow := S } on := by
  obtain ⟨vs, ho, hr⟩ := h.ord
  exact ⟨v.keeps h.obj h.role (sdN (by decide)), v.ro h.obj h.role, v.keeps h.past h.rp (sdN (by decide)), v.ro h.past h.rp, v.tups _ _ h.rul, ⟨vs, v.keeps ho h.ro (sdN (by decide)), hr.mv v.tups⟩, v.ro ho h.ro,
    d, h.fast.mv v fun i hi => sdN (by omega), h.kn.mv v fun i hi => sdN (by omega)⟩
theorem ModS.fast' (h : ModS c ρ H a A m D on) {S : Dk (Option Rec)} (d : MDkAt cR 2020 ρ' H' A.f S) (v : Mv (SD 2020) ρ H ρ' H') : ModS c ρ' H' a A m { D with fast := S } on := by
  obtain ⟨vs, ho, hr⟩ := h.ord
  exact ⟨v.keeps h.obj h.role (sdN (by decide)), v.ro h.obj h.role, v.keeps h.past h.rp (sdN (by decide)), v.ro h.past h.rp, v.tups _ _ h.rul, ⟨vs, v.keeps ho h.ro (sdN (by decide)), hr.mv v.tups⟩, v.ro ho h.ro,
    h.slow.mv v fun i hi => sdN (by omega), d, h.kn.mv v fun i hi => sdN (by omega)⟩
theorem ModS.know' (h : ModS c ρ H a A m D on) {kn : Kn} (d : KnownAt 2030 ρ' H' A.k kn) (v : Mv (SK 2030) ρ H ρ' H') : ModS c ρ' H' a A { m with kn := kn } D on := by
  obtain ⟨vs, ho, hr⟩ := h.ord
  exact ⟨v.keeps h.obj h.role (skN (by decide)), v.ro h.obj h.role, v.keeps h.past h.rp (skN (by decide)), v.ro h.past h.rp, v.tups _ _ h.rul, ⟨vs, v.keeps ho h.ro (skN (by decide)), hr.mv v.tups⟩, v.ro ho h.ro,
    h.slow.mv v fun i hi => skN (by omega), h.fast.mv v fun i hi => skN (by omega), d⟩
/-- the dict itself: numbers and flags, perhaps another dict of the known slots -/
theorem ModS.dict' (h : ModS c ρ H a A m D on) {k : Addr} {kn : Kn} (hk : KnownAt 2030 ρ H k kn) (tn bg fd : Int) (on' : Bool) : ModS c ρ (upd H a (.dK (modF { A with k := k } ⟨kn, tn, bg, fd⟩ on'))) a { A with k := k } ⟨kn, tn, bg, fd⟩ D on' ∧ Mv (S1 2000) ρ H ρ (upd H a (.dK (modF { A with k := k } ⟨kn, tn, bg, fd⟩ on'))) := by
  obtain ⟨vs, ho, hr⟩ := h.ord
  have v : Mv (S1 2000) ρ H ρ (upd H a (.dK (modF { A with k := k } ⟨kn, tn, bg, fd⟩ on'))) := Mv.refl.wr h.obj (fun xs z => by cases z) (.inr h.role) _
  exact ⟨⟨upd_same, h.role, v.keeps h.past h.rp (s1N (by decide)), h.rp, v.tups _ _ h.rul, ⟨vs, v.keeps ho h.ro (s1N (by decide)), hr.mv v.tups⟩, h.ro,
    h.slow.mv v fun i hi => s1N (by omega), h.fast.mv v fun i hi => s1N (by omega), hk.mv v fun i hi => s1N (by omega)⟩, v⟩
theorem ModS.obj' (h : ModS c ρ H a A m D on) (tn bg fd : Int) (on' : Bool) : ModS c ρ (upd H a (.dK (modF A ⟨m.kn, tn, bg, fd⟩ on'))) a A ⟨m.kn, tn, bg, fd⟩ D on' ∧ Mv (S1 2000) ρ H ρ (upd H a (.dK (modF A ⟨m.kn, tn, bg, fd⟩ on'))) := h.dict' h.kn tn bg fd on'
theorem ModS.mv0 (h : ModS c ρ H a A m D on) (v : Mv S0 ρ H ρ' H') : ModS c ρ' H' a A m D on := h.mv v (fun _ _ _ z => z) (fun z => z)
theorem ModAt.mv0 (h : ModAt c ρ H a m D on) (v : Mv S0 ρ H ρ' H') : ModAt c ρ' H' a m D on := h.mv v (fun _ _ _ z => z) (fun z => z)
theorem sd_sm {r : Nat} (h : 2000 ≤ r) (h2 : r + 4 < 3000) : ∀ n, SD r n → SM n := fun n z => by unfold SD at z; unfold SM; omega
theorem sk_sm : ∀ n, SK 2030 n → SM n := fun n z => by unfold SK at z; unfold SM; omega
theorem s1_sm {r : Nat} (h : 2000 ≤ r) (h2 : r < 3000) : ∀ n, S1 r n → SM n := fun n z => by unfold S1 at z; unfold SM; omega
end
end Kb
set_option Elab.async false
set_option linter.all false
set_option maxRecDepth 100000
set_option maxHeartbeats 4000000
namespace Kb
open PySem PySem.Spec PyProof.Rows L2
section
variable {P : Program} {w : World} {K : PySem.W.Frag} {mg : Str → Option Value} {base : Heap}
def sp_need_on (K : PySem.W.Frag) : Sp := Sp1 fun a H Q => ∃ (c : Cfg) (ρ : Ro) (p : Addr) (m : Mem) (D : Ds), a = .ref p ∧ PairAt K c ρ H p m D true ∧ Q .non H
theorem sc_P_need_on : FnScope ["self"] ["self"] (defScope s_P_need_on) := ⟨rfl, rfl, rfl, by decide +kernel, rfl, by decide +kernel, by decide +kernel⟩
theorem m_P_need_on (T : Txt K mg) : C8.Met P w K mg base 1 (He.ga K "Pair") "need_on" (sp_need_on K) [] := by
  refine met_of T.F_P_need_on T.cl_Pair T.mt_Pair_need_on sc_P_need_on len1 (fun _ _ _ _ _ _ us hl => match us, hl with | [_], _ => rfl) (fun cdv A outer s H vs Q E hr h => ?_)
  obtain ⟨a, rfl, c, ρ, p, m, D, rfl, ⟨A, h⟩, k⟩ := h
  obtain ⟨dn, ho⟩ := h.obj
  refine ⟨_, pss_one (ps_if (pt_not (pt_val (pe_fld (pv 0) rfl))) (pss_one (ps_never)) (pss_nil)), ?_⟩
  exact ⟨_, rfl, p, _, A.dx, _, _, rfl, ho, T.cl_Pair, T.na_Pair_is_powered, rfl, true, rfl, iteF k⟩
def sp_check_block (K : PySem.W.Frag) : Sp := Sp2 fun a b H Q => ∃ (c : Cfg) (ρ : Ro) (p : Addr) (m : Mem) (D : Ds) (on : Bool) (n : Nat), a = .ref p ∧ b = .int (n : Int) ∧ PairAt K c ρ H p m D on ∧ n < D.slow.sh.length ∧ Q .non H
theorem sc_P_check_block : FnScope ["self", "block"] ["self", "block"] (defScope s_P_check_block) := ⟨rfl, rfl, rfl, by decide +kernel, rfl, by decide +kernel, by decide +kernel⟩
theorem m_P_check_block (T : Txt K mg) : C8.Met P w K mg base 3 (He.ga K "Pair") "check_block" (sp_check_block K) [] := by
  refine met_of T.F_P_check_block T.cl_Pair T.mt_Pair_check_block sc_P_check_block len2 (fun _ _ _ _ _ _ us hl => match us, hl with | [_, _], _ => rfl) (fun cdv A outer s H vs Q E hr h => ?_)
  obtain ⟨a, b, rfl, c, ρ, p, m, D, on, n, rfl, rfl, ⟨A, h⟩, hn, k⟩ := h
  obtain ⟨dn, ho⟩ := h.obj
  obtain ⟨dx, L, hd, rd, hk⟩ := h.slow
  obtain ⟨vs, h1, q1⟩ := hk.sh
  have hl := q1.len
  refine ⟨_, pss_one (ps_if (pt_not (pt_val (C8.pe_c (c_P_is_int_in T) hr (by decide) rfl (pa_cons (pv 1) (pa_cons (pe_int) (pa_cons (pe_op op_sub (pe_callB call_len_seq (by rfl) T.f_len (by decide +kernel) (pa_cons (pe_fld (pe_fld (pv 0) rfl) rfl) pa_nil)) (pe_int)) pa_nil)))))) (pss_one (ps_never)) (pss_nil)), ?_⟩
  refine ⟨_, rfl, _, rfl, p, _, A.dx, _, _, rfl, ho, T.cl_Pair, T.na_Pair_slow, rfl, A.ds, _, dx, _, _, rfl, hd, T.cl_Disk, T.na_Disk_shown, rfl, _, _, rfl, .inl (SqL.of h1), _, _, rfl, rfl, ?_⟩
  exact ⟨_, _, _, rfl, _, _, _, rfl, rfl, rfl, _, rfl, ite_not (in_true (by omega) (by omega)) k⟩
def sp_turn_off (K : PySem.W.Frag) : Sp := Sp1 fun a H Q => ∃ (c : Cfg) (ρ : Ro) (p : Addr) (m : Mem) (D : Ds) (on : Bool), a = .ref p ∧ PairAt K c ρ H p m D on ∧
  ∀ (ρ' : Ro) (H' : Hp), PairAt K c ρ' H' p { m with kn := nones m.kn.length } D false → Mv SP ρ H ρ' H' → Q .non H'
theorem sc_P_turn_off : FnScope ["self"] ["self"] (defScope s_P_turn_off) := ⟨rfl, rfl, rfl, by decide +kernel, rfl, by decide +kernel, by decide +kernel⟩
theorem m_P_turn_off (T : Txt K mg) : C8.Met P w K mg base 1 (He.ga K "Pair") "turn_off" (sp_turn_off K) [] := by
  refine met_of T.F_P_turn_off T.cl_Pair T.mt_Pair_turn_off sc_P_turn_off len1 (fun _ _ _ _ _ _ us hl => match us, hl with | [_], _ => rfl) (fun cdv A outer s H vs Q E hr h => ?_)
  obtain ⟨a, rfl, c, ρ, p, m, D, on, rfl, ⟨A, h⟩, k⟩ := h
  obtain ⟨dn, ho⟩ := h.obj
  refine ⟨_, pss_cons (ps_fld (pv 0) (pe_bl) rfl)
      (pss_cons (ps_fld (pv 0) (pe_bl) rfl)
      (pss_cons (ps_fld (pv 0) (pe_dnewK) rfl)
      (pss_one (ps_fld (pv 0) (pe_non) rfl)))), ?_⟩
  refine ⟨_, rfl, p, _, A.dx, _, rfl, ho, T.cl_Pair, T.na_Pair_is_powered, (show (13 : Nat) < 1000 by decide), ?_⟩
  obtain ⟨g1, m1⟩ := h.obj' m.turn m.begun m.hits false dn
  refine ⟨_, rfl, p, _, A.dx, _, rfl, upd_same, T.cl_Pair, T.na_Pair_is_done, (show (13 : Nat) < 1000 by decide), ?_⟩
  obtain ⟨g2, m2⟩ := g1.obj' m.turn m.begun m.hits false (.bl false)
  refine fun q hq => ?_
  have m3 : Mv S0 ρ _ _ _ := Mv.refl.new hq 1030 (.dK [])
  have g3 := g2.mv0 m3
  obtain ⟨dn3, ho3⟩ := g3.obj
  refine ⟨_, rfl, p, _, A.dx, _, rfl, ho3, T.cl_Pair, T.na_Pair_slots, (show (13 : Nat) < 1000 by decide), ?_⟩
  have hkn : KnownAt 1030 (rs ρ q 1030) _ q (nones m.kn.length) := ⟨by unfold nones; rw [List.length_replicate]; exact h.kn.1, _, _, know_nil (H := upd (upd (upd H p (.ins (He.ga K "Pair") A.dx (pairF A m.turn m.begun m.hits false dn))) p (.ins (He.ga K "Pair") A.dx (pairF A m.turn m.begun m.hits false (.bl false)))) q (.dK [])) upd_same rs_same⟩
  obtain ⟨g4, m4⟩ := g3.dict' (by unfold nones; rw [List.length_replicate]) hkn m.turn m.begun m.hits false dn3
  refine ⟨_, rfl, p, _, A.dx, _, rfl, upd_same, T.cl_Pair, T.na_Pair_left, (show (13 : Nat) < 1000 by decide), ?_⟩
  obtain ⟨g5, m5⟩ := g4.obj' m.turn m.begun m.hits false dn3
  exact k _ _ ⟨_, g5⟩ ((((m1.mono (s1_sp (by decide) (by decide))).trans (m2.mono (s1_sp (by decide) (by decide)))).trans (m3.mono s0_sp)).trans ((m4.mono (s1_sp (by decide) (by decide))).trans (m5.mono (s1_sp (by decide) (by decide)))))
def sp_step (K : PySem.W.Frag) : Sp := Sp1 fun a H Q => ∃ (c : Cfg) (ρ : Ro) (p : Addr) (m : Mem) (D : Ds) (on : Bool), a = .ref p ∧ PairAt K c ρ H p m D on ∧ Q .non H
theorem sc_P_step : FnScope ["self", "was_done"] ["self"] (defScope s_P_step) := ⟨rfl, rfl, rfl, by decide +kernel, rfl, by decide +kernel, by decide +kernel⟩
theorem m_P_step (T : Txt K mg) : C8.Met P w K mg base 2 (He.ga K "Pair") "step" (sp_step K) [] := by
  refine met_of T.F_P_step T.cl_Pair T.mt_Pair_step sc_P_step len1 (fun _ _ _ _ _ _ us hl => match us, hl with | [_], _ => rfl) (fun cdv A outer s H vs Q E hr h => ?_)
  obtain ⟨a, rfl, c, ρ, p, m, D, on, rfl, ⟨A, h⟩, k⟩ := h
  obtain ⟨dn, ho⟩ := h.obj
  refine ⟨_, pss_cons (ps_if (pt_cmpR op_eq (pe_fld (pv 0) rfl) (pe_int) (nomark _)) (pss_cons (ps_set (i := 1) sc_P_step.nd rfl (.inl rfl) (pe_fld (pv 0) rfl))
      (pss_cons (ps_expr (C8.pe_mt0 (m_P_turn_off T) hr (by decide) (pv 0)))
      (pss_one (ps_never)))) (pss_nil))
      (pss_one (ps_if (pt_cmpR op_notN (pe_fld (pv 0) rfl) (pe_non) (nomark _)) (pss_one (ps_fldaug (pv 0) (pe_int) in_sub)) (pss_nil))), ?_⟩
  refine ⟨_, rfl, p, _, A.dx, _, _, rfl, ho, T.cl_Pair, T.na_Pair_left, rfl, rfl, _, rfl, ite_ff (by decide) ?_⟩
  exact ⟨_, rfl, p, _, A.dx, _, _, rfl, ho, T.cl_Pair, T.na_Pair_left, rfl, rfl, _, rfl, ite_ff nn_non k⟩
def sp_write_slow (K : PySem.W.Frag) : Sp := Sp3 fun a b e H Q => ∃ (c : Cfg) (ρ : Ro) (p : Addr) (m : Mem) (D : Ds) (on : Bool) (n : Nat) (v : Int), a = .ref p ∧ b = .int (n : Int) ∧ e = .int v ∧ PairAt K c ρ H p m D on ∧ n < D.slow.sh.length ∧ D.slow.wt.length < 1000000 ∧
  ∀ (ρ' : Ro) (H' : Hp), PairAt K c ρ' H' p m (app D (.slow n v)) on → Mv SP ρ H ρ' H' → Q .non H'
theorem sc_P_write_slow : FnScope ["self", "block", "value"] ["self", "block", "value"] (defScope s_P_write_slow) := ⟨rfl, rfl, rfl, by decide +kernel, rfl, by decide +kernel, by decide +kernel⟩
theorem m_P_write_slow (T : Txt K mg) : C8.Met P w K mg base 5 (He.ga K "Pair") "write_slow" (sp_write_slow K) [] := by
  refine met_of T.F_P_write_slow T.cl_Pair T.mt_Pair_write_slow sc_P_write_slow len3 (fun _ _ _ _ _ _ us hl => match us, hl with | [_, _, _], _ => rfl) (fun cdv A outer s H vs Q E hr h => ?_)
  obtain ⟨a, b, e, rfl, c, ρ, p, m, D, on, n, v, rfl, rfl, rfl, ⟨A, h⟩, hn, hw, k⟩ := h
  obtain ⟨dn, ho⟩ := h.obj
  obtain ⟨dx, L, hd, rd, hk⟩ := h.slow
  refine ⟨_, pss_cons (ps_expr (C8.pe_mt0 (m_P_step T) hr (by decide) (pv 0)))
      (pss_one (ps_expr (C8.pe_mt (m_D_write T) hr (by decide) (pe_fld (pv 0) rfl) (pa_cons (pv 1) (pa_cons (pv 2) pa_nil))))), ?_⟩
  refine ⟨_, rfl, p, A.dx, _, rfl, ho, rfl, _, rfl, c, ρ, p, m, D, on, rfl, ⟨A, h⟩, ?_⟩
  refine ⟨_, rfl, p, _, A.dx, _, _, rfl, ho, T.cl_Pair, T.na_Pair_slow, rfl, A.ds, dx, _, rfl, hd, rfl, _, rfl, _, rfl, ?_⟩
  refine ⟨_, _, _, rfl, Int, cI, 1010, ρ, A.ds, D.slow, n, v, rfl, rfl, ⟨dx, L, hd, rd, hk⟩, hn, rfl, hw, fun ρ' H' g m1 => ?_⟩
  exact k ρ' H' ⟨A, h.slow' g m1⟩ (m1.mono (sd_sp (by decide) (by decide)))
def sp_sync_slow (K : PySem.W.Frag) : Sp := Sp1 fun a H Q => ∃ (c : Cfg) (ρ : Ro) (p : Addr) (m : Mem) (D : Ds) (on : Bool), a = .ref p ∧ PairAt K c ρ H p m D on ∧
  ∀ (ρ' : Ro) (H' : Hp), PairAt K c ρ' H' p m (app D .sslow) on → Mv SP ρ H ρ' H' → Q .non H'
theorem sc_P_sync_slow : FnScope ["self"] ["self"] (defScope s_P_sync_slow) := ⟨rfl, rfl, rfl, by decide +kernel, rfl, by decide +kernel, by decide +kernel⟩
theorem m_P_sync_slow (T : Txt K mg) : C8.Met P w K mg base 3 (He.ga K "Pair") "sync_slow" (sp_sync_slow K) [] := by
  refine met_of T.F_P_sync_slow T.cl_Pair T.mt_Pair_sync_slow sc_P_sync_slow len1 (fun _ _ _ _ _ _ us hl => match us, hl with | [_], _ => rfl) (fun cdv A outer s H vs Q E hr h => ?_)
  obtain ⟨a, rfl, c, ρ, p, m, D, on, rfl, ⟨A, h⟩, k⟩ := h
  obtain ⟨dn, ho⟩ := h.obj
  obtain ⟨dx, L, hd, rd, hk⟩ := h.slow
  refine ⟨_, pss_cons (ps_expr (C8.pe_mt0 (m_P_step T) hr (by decide) (pv 0)))
      (pss_one (ps_expr (C8.pe_mt0 (m_D_sync T) hr (by decide) (pe_fld (pv 0) rfl)))), ?_⟩
  refine ⟨_, rfl, p, A.dx, _, rfl, ho, rfl, _, rfl, c, ρ, p, m, D, on, rfl, ⟨A, h⟩, ?_⟩
  refine ⟨_, rfl, p, _, A.dx, _, _, rfl, ho, T.cl_Pair, T.na_Pair_slow, rfl, A.ds, dx, _, rfl, hd, rfl, ?_⟩
  refine ⟨_, rfl, Int, cI, 1010, ρ, A.ds, D.slow, rfl, ⟨dx, L, hd, rd, hk⟩, fun ρ' H' g m1 => ?_⟩
  exact k ρ' H' ⟨A, h.slow' g m1⟩ (m1.mono (sd_sp (by decide) (by decide)))
def sp_write_fast (K : PySem.W.Frag) : Sp := Sp3 fun a b e H Q => ∃ (c : Cfg) (ρ : Ro) (p : Addr) (m : Mem) (D : Ds) (on : Bool) (n : Nat) (o : Option Rec), a = .ref p ∧ b = .int (n : Int) ∧ cR.R H o e ∧ PairAt K c ρ H p m D on ∧ n < D.fast.sh.length ∧ n < m.kn.length ∧ D.fast.wt.length < 1000000 ∧
  ∀ (ρ' : Ro) (H' : Hp), PairAt K c ρ' H' p m (app D (.fast n o)) on → Mv SP ρ H ρ' H' → Q .non H'
theorem sc_P_write_fast : FnScope ["self", "slot", "record"] ["self", "slot", "record"] (defScope s_P_write_fast) := ⟨rfl, rfl, rfl, by decide +kernel, rfl, by decide +kernel, by decide +kernel⟩
theorem m_P_write_fast (T : Txt K mg) : C8.Met P w K mg base 5 (He.ga K "Pair") "write_fast" (sp_write_fast K) [] := by
  refine met_of T.F_P_write_fast T.cl_Pair T.mt_Pair_write_fast sc_P_write_fast len3 (fun _ _ _ _ _ _ us hl => match us, hl with | [_, _, _], _ => rfl) (fun cdv A outer s H vs Q E hr h => ?_)
  obtain ⟨a, b, e, rfl, c, ρ, p, m, D, on, n, o, rfl, rfl, he, ⟨A, h⟩, hn, hn2, hw, k⟩ := h
  obtain ⟨dn, ho⟩ := h.obj
  obtain ⟨dx, L, hd, rd, hk⟩ := h.fast
  refine ⟨_, pss_cons (ps_expr (C8.pe_mt0 (m_P_step T) hr (by decide) (pv 0)))
      (pss_cons (ps_expr (C8.pe_mt (m_D_write T) hr (by decide) (pe_fld (pv 0) rfl) (pa_cons (pv 1) (pa_cons (pv 2) pa_nil))))
      (pss_one (ps_augS (pe_fld (pv 0) rfl) (pv 1) pget_list (pe_int) ip_add set_list))), ?_⟩
  refine ⟨_, rfl, p, A.dx, _, rfl, ho, rfl, _, rfl, c, ρ, p, m, D, on, rfl, ⟨A, h⟩, ?_⟩
  refine ⟨_, rfl, p, _, A.dx, _, _, rfl, ho, T.cl_Pair, T.na_Pair_fast, rfl, A.df, dx, _, rfl, hd, rfl, _, rfl, _, rfl, ?_⟩
  refine ⟨_, _, _, rfl, Option Rec, cR, 1020, ρ, A.df, D.fast, n, o, rfl, rfl, ⟨dx, L, hd, rd, hk⟩, hn, he, hw, fun ρ' H' g m1 => ?_⟩
  have h1 := h.fast' g m1
  obtain ⟨dn1, ho1⟩ := h1.obj
  obtain ⟨ws, hl, hws⟩ := h1.wr
  have hl : ws.length = m.kn.length := hl
  have hx : (ws.map V.int)[n]? = some (.int ws[n]) := by
    rw [List.getElem?_map, List.getElem?_eq_getElem (by omega)]
    rfl
  refine ⟨_, rfl, p, _, A.dx, _, _, rfl, ho1, T.cl_Pair, T.na_Pair_writes, rfl, _, rfl, _, _, _, _, rfl, rfl, SqL.of hws, atI_nat hx, _, _, rfl, rfl, A.aw, _, _, n, rfl, rfl, hws, ixn (by rw [List.length_map]; omega), ?_⟩
  have e1 : (ws.map V.int).set n (.int (ws[n] + 1)) = (ws.set n (ws[n] + 1)).map V.int := by rw [List.map_set]
  have e2 : (ws.set n (ws[n] + 1)).length = m.kn.length := by rw [List.length_set]; exact hl
  obtain ⟨h2, m2⟩ := h1.wr' (ws := ws.set n (ws[n] + 1)) e2
  rw [← e1] at h2 m2
  exact k _ _ ⟨A, h2⟩ ((m1.mono (sd_sp (by decide) (by decide))).trans (m2.mono (s1_sp (by decide) (by decide))))
def sp_sync_fast (K : PySem.W.Frag) : Sp := Sp1 fun a H Q => ∃ (c : Cfg) (ρ : Ro) (p : Addr) (m : Mem) (D : Ds) (on : Bool), a = .ref p ∧ PairAt K c ρ H p m D on ∧
  ∀ (ρ' : Ro) (H' : Hp), PairAt K c ρ' H' p m (app D .sfast) on → Mv SP ρ H ρ' H' → Q .non H'
theorem sc_P_sync_fast : FnScope ["self"] ["self"] (defScope s_P_sync_fast) := ⟨rfl, rfl, rfl, by decide +kernel, rfl, by decide +kernel, by decide +kernel⟩
theorem m_P_sync_fast (T : Txt K mg) : C8.Met P w K mg base 3 (He.ga K "Pair") "sync_fast" (sp_sync_fast K) [] := by
  refine met_of T.F_P_sync_fast T.cl_Pair T.mt_Pair_sync_fast sc_P_sync_fast len1 (fun _ _ _ _ _ _ us hl => match us, hl with | [_], _ => rfl) (fun cdv A outer s H vs Q E hr h => ?_)
  obtain ⟨a, rfl, c, ρ, p, m, D, on, rfl, ⟨A, h⟩, k⟩ := h
  obtain ⟨dn, ho⟩ := h.obj
  obtain ⟨dx, L, hd, rd, hk⟩ := h.fast
  refine ⟨_, pss_one (ps_if (pt_cmpR op_notN (pe_fld (pv 0) rfl) (pe_non) (nomark _)) (pss_cons (ps_expr (C8.pe_mt0 (m_P_step T) hr (by decide) (pv 0)))
      (pss_one (ps_expr (C8.pe_mt0 (m_D_sync T) hr (by decide) (pe_fld (pv 0) rfl))))) (pss_nil)), ?_⟩
  refine ⟨_, rfl, p, _, A.dx, _, _, rfl, ho, T.cl_Pair, T.na_Pair_fast, rfl, rfl, _, rfl, ite_tt (nn_ref _) ?_⟩
  refine ⟨_, rfl, p, A.dx, _, rfl, ho, rfl, _, rfl, c, ρ, p, m, D, on, rfl, ⟨A, h⟩, ?_⟩
  refine ⟨_, rfl, p, _, A.dx, _, _, rfl, ho, T.cl_Pair, T.na_Pair_fast, rfl, A.df, dx, _, rfl, hd, rfl, ?_⟩
  refine ⟨_, rfl, Option Rec, cR, 1020, ρ, A.df, D.fast, rfl, ⟨dx, L, hd, rd, hk⟩, fun ρ' H' g m1 => ?_⟩
  exact k ρ' H' ⟨A, h.fast' g m1⟩ (m1.mono (sd_sp (by decide) (by decide)))
def sp_slot_of (K : PySem.W.Frag) : Sp := Sp2 fun a b H Q => ∃ (c : Cfg) (ρ : Ro) (p : Addr) (m : Mem) (D : Ds) (on : Bool) (n : Nat), a = .ref p ∧ b = .int (n : Int) ∧ PairAt K c ρ H p m D on ∧ Uq m.kn ∧
  ∀ (ρ' : Ro) (H' : Hp), Mv S0 ρ H ρ' H' → Q (oV (slotOf m.kn n)) H'
theorem sc_P_slot_of : FnScope ["self", "block", "slot", "entry"] ["self", "block"] (defScope s_P_slot_of) := ⟨rfl, rfl, rfl, by decide +kernel, rfl, by decide +kernel, by decide +kernel⟩
theorem m_P_slot_of (T : Txt K mg) : C8.Met P w K mg base 1 (He.ga K "Pair") "slot_of" (sp_slot_of K) [] := by
  refine met_of T.F_P_slot_of T.cl_Pair T.mt_Pair_slot_of sc_P_slot_of len2 (fun _ _ _ _ _ _ us hl => match us, hl with | [_, _], _ => rfl) (fun cdv A outer s H vs Q E hr h => ?_)
  obtain ⟨a, b, rfl, c, ρ, p, m, D, on, n, rfl, rfl, ⟨A, h⟩, u, k⟩ := h
  obtain ⟨dn, ho⟩ := h.obj
  obtain ⟨hk8, ea, L, hk⟩ := h.kn
  have npk : p ≠ A.ak := ne_of ho hk.dict (by intro z; cases z)
  refine ⟨_, pss_cons (ps_lock (ps_for PassesOwn.never rfl (pi_items (pe_fld (pv 0) rfl)) (pg_tup (n := 2) rfl (pgs_cons (pg_name (i := 2) sc_P_slot_of.nd rfl (.inl rfl)) (pgs_cons (pg_name (i := 3) sc_P_slot_of.nd rfl (.inl rfl)) pgs_nil))) (pss_one (ps_if (pt_cmpR op_eq (pe_ix ix_tup (pe_ix ix_list (pv 3) (pe_int) (fun _ _ => rfl)) (pe_int) (fun _ _ => rfl)) (pv 1) (nomark _)) (pss_one (ps_ret (pv 2))) (pss_nil)))))
      (pss_one (ps_ret (pe_non))), ?_⟩
  refine ⟨A.ak, _, hk.dict, trivial, fun od => ?_⟩
  have hol := (upd_ne (o := .frz od (.dK (kvs ea L))) npk).trans ho
  refine ⟨_, rfl, p, _, A.dx, _, _, rfl, hol, T.cl_Pair, T.na_Pair_slots, rfl, A.ak, od, _, rfl, upd_same, ?_⟩
  refine for_it walk_items (fun i σ H' => ∃ x y ρ', σ = [some (.ref p), some (.int (n : Int)), x, y] ∧ Mv S0 ρ (upd H A.ak (.frz od (.dK (kvs ea L)))) ρ' H' ∧ ∀ j s e, j < i → L[j]? = some (s, e) → e.r.b ≠ n) ⟨_, _, ρ, rfl, Mv.refl, fun j s e hj => absurd hj (Nat.not_lt_zero _)⟩ (fun i σ H' _ ⟨_, _, _, _, mm, _⟩ => mm.at0 upd_same) (fun i x σ H1 H2 hi ⟨x0, y0, ρ0, e, m0, hno⟩ y => ?_) (fun σ H1 ⟨x0, y0, ρ1, e, m1, hno⟩ => ?_)
  · obtain ⟨U, x, y, rfl, hU, rfl, hx, hy⟩ := y
    subst e
    obtain ⟨kv, hkv, rfl, rfl⟩ := item_at hx hy
    obtain ⟨s, e, hLi, rfl⟩ := kvs_at hkv
    refine pair_at ?_
    have m1 := m0.new hU 0 (.tup [.int (s : Int), .ref (ea s)])
    have hat := (hk.rep.mem s e).mp (List.mem_of_getElem? hLi)
    obtain ⟨_, t, h1, h2⟩ := hk.ent s e hat
    have n1 : ea s ≠ A.ak := ne_of h1 hk.dict (by intro z; cases z)
    have n2 : t ≠ A.ak := ne_of h2 hk.dict (by intro z; cases z)
    have h1' := m1.at0 ((upd_ne (o := .frz od (.dK (kvs ea L))) n1).trans h1)
    have h2' := m1.at0 ((upd_ne (o := .frz od (.dK (kvs ea L))) n2).trans h2)
    refine ⟨_, rfl, ea s, _, _, _, rfl, rfl, SqL.of h1', rfl, t, _, _, _, rfl, rfl, SqT.of h2', rfl, _, rfl, rfl, _, rfl, ?_⟩
    by_cases hb : e.r.b = n
    · refine ite_tt (decide_eq_true (by rw [hb])) ⟨_, rfl, ?_⟩
      obtain ⟨g1, g2⟩ := Mv.unlk hk.dict m1
      refine ⟨g1, ?_⟩
      have kk := k _ _ g2
      rw [slotOf_some u hat hb] at kk
      exact kk
    · refine ite_ff (decide_eq_false fun z => hb (by injection z with z; omega)) ⟨_, _, _, rfl, m1, fun j s' e' hj hL => ?_⟩
      by_cases hji : j = i
      · subst hji
        rw [hLi] at hL
        cases hL
        exact hb
      · exact hno j s' e' (by omega) hL
  · subst e
    obtain ⟨g1, g2⟩ := Mv.unlk hk.dict m1
    refine ⟨g1, ?_⟩
    have kk := k _ _ g2
    rw [slotOf_none fun s e he hb => by
      obtain ⟨j, hj⟩ := List.mem_iff_getElem?.mp ((hk.rep.mem s e).mpr he)
      have hjl := (List.getElem?_eq_some_iff.mp hj).1
      exact hno j s e (by rw [kvs_len]; exact hjl) hj hb] at kk
    exact kk
end
end Kb
set_option Elab.async false
set_option linter.all false
set_option maxRecDepth 100000
set_option maxHeartbeats 4000000
namespace Kb
open PySem PySem.Spec PyProof.Rows L2
section
variable {r : Nat} {ρ : Ro} {H : Hp} {k : Addr} {kn : Kn} {ea : Nat → Addr} {L : List (Nat × Ent)} {s : Nat}
theorem kvs_rep {ea : Nat → Addr} {s : Nat} {p : Addr} {e : Ent} : ∀ {L : List (Nat × Ent)}, kvs (fun x => if x = s then p else ea x) (L.map fun x => (x.1, if x.1 = s then e else x.2)) = (kvs ea L).map fun kv => if kv.1 = Sum.inl (s : Int) then (kv.1, V.ref p) else kv
  | [] => rfl
  | x :: l => by
    show (Sum.inl (x.1 : Int), V.ref (if x.1 = s then p else ea x.1)) :: kvs (fun x => if x = s then p else ea x) (l.map fun x => (x.1, if x.1 = s then e else x.2)) = (if (Sum.inl (x.1 : Int) : Key) = Sum.inl (s : Int) then ((Sum.inl (x.1 : Int) : Key), V.ref p) else (Sum.inl (x.1 : Int), V.ref (ea x.1))) :: (kvs ea l).map _
    rw [kvs_rep]
    by_cases q : x.1 = s
    · rw [if_pos q, if_pos (key_inj.mpr q)]
    · rw [if_neg q, if_neg (fun z => q (key_inj.mp z))]
/-- another entry at p under a key that was there -/
theorem KnowAt.rep' (h : KnowAt r ρ H k ea L kn) {e0 e : Ent} {p t : Addr} (he : Kn.at kn s = some e0) (hp : H p = some (.lst (entV t e))) (rp : ρ p = r + 1 + s) (ht : H t = some (.tup (recV e.r))) :
    KnowAt r ρ (upd H k (.dK (putK (kvs ea L) (Sum.inl (s : Int)) (.ref p)))) k (fun x => if x = s then p else ea x) (L.map fun x => (x.1, if x.1 = s then e else x.2)) (kn.set s (some e)) := by
  have hs := at_lt he
  refine ⟨⟨?_, fun j e2 => ?_⟩, ?_, h.role, fun j e2 hj => ?_⟩
  · rw [List.map_map]
    exact h.rep.nd
  · rw [at_set hs]
    constructor
    · intro m
      obtain ⟨x, hx, q⟩ := List.mem_map.mp m
      injection q with q1 q2
      subst q1
      by_cases z : x.1 = s
      · rw [if_pos z]
        rw [if_pos z] at q2
        rw [q2]
      · rw [if_neg z]
        rw [if_neg z] at q2
        rw [← q2]
        exact (h.rep.mem x.1 x.2).mp hx
    · intro m
      by_cases z : j = s
      · rw [if_pos z] at m
        refine List.mem_map.mpr ⟨(s, e0), (h.rep.mem s e0).mpr he, ?_⟩
        show (s, if s = s then e else e0) = (j, e2)
        rw [if_pos rfl, z, Option.some.inj m]
      · rw [if_neg z] at m
        refine List.mem_map.mpr ⟨(j, e2), (h.rep.mem j e2).mpr m, ?_⟩
        show (j, if j = s then e else e2) = (j, e2)
        rw [if_neg z]
  · rw [kvs_rep, upd_same]
    unfold putK
    rw [valV_any, h.val, he]
    rfl
  · rw [at_set hs] at hj
    by_cases z : j = s
    · rw [if_pos z] at hj
      have e3 := Option.some.inj hj
      subst e3
      subst z
      show ρ (if j = j then p else ea j) = _ ∧ _
      rw [if_pos rfl]
      refine ⟨rp, t, ?_, ?_⟩
      · rw [upd_ne (ne_of hp h.dict (by intro z; cases z))]
        exact hp
      · rw [upd_ne (ne_of ht h.dict (by intro z; cases z))]
        exact ht
    · rw [if_neg z] at hj
      obtain ⟨r3, t3, h3, h4⟩ := h.ent j e2 hj
      show ρ (if j = s then p else ea j) = _ ∧ _
      rw [if_neg z]
      refine ⟨r3, t3, ?_, ?_⟩
      · rw [upd_ne (ne_of h3 h.dict (by intro z; cases z))]
        exact h3
      · rw [upd_ne (ne_of h4 h.dict (by intro z; cases z))]
        exact h4
theorem KnowAt.putA (h : KnowAt r ρ H k ea L kn) {e : Ent} {p t : Addr} (hs : s < kn.length) (hp : H p = some (.lst (entV t e))) (rp : ρ p = r + 1 + s) (ht : H t = some (.tup (recV e.r))) :
    ∃ ea' L', KnowAt r ρ (upd H k (.dK (putK (kvs ea L) (Sum.inl (s : Int)) (.ref p)))) k ea' L' (kn.set s (some e)) := by
  cases q : Kn.at kn s with
  | none => exact ⟨_, _, h.put hs q hp rp ht⟩
  | some e0 => exact ⟨_, _, h.rep' q hp rp ht⟩
theorem sk_in {r i : Nat} (h : i ≤ 8) : SK r (r + i) := ⟨by omega, by omega⟩
/-- the move of a change of an entry's list -/
theorem KnowAt.mvE (h : KnowAt r ρ H k ea L kn) (hl : kn.length ≤ 8) {e : Ent} (he : Kn.at kn s = some e) (o : HO) : Mv (SK r) ρ H ρ (upd H (ea s) o) := by
  obtain ⟨r1, t, h1, h2⟩ := h.ent s e he
  have hs := at_lt he
  exact Mv.refl.wr h1 (fun xs z => by cases z) (.inr (by rw [r1]; exact ⟨by omega, by omega⟩)) o
theorem KnowAt.mvK (h : KnowAt r ρ H k ea L kn) (o : HO) : Mv (SK r) ρ H ρ (upd H k o) := Mv.refl.wr h.dict (fun xs z => by cases z) (.inr (by rw [h.role]; exact ⟨by omega, by omega⟩)) o
theorem KnowAt.mv {ρ' : Ro} {H' : Hp} {S : Nat → Prop} (h : KnowAt r ρ H k ea L kn) (hl : kn.length ≤ 8) (m : Mv S ρ H ρ' H') (n : ∀ i, i ≤ 8 → ¬ S (r + i)) : KnowAt r ρ' H' k ea L kn := by
  refine ⟨h.rep, m.keeps h.dict h.role (n 0 (by decide)), m.ro h.dict h.role, fun s e he => ?_⟩
  obtain ⟨r1, t, h1, h2⟩ := h.ent s e he
  have ls := at_lt he
  exact ⟨m.ro h1 r1, t, m.keeps h1 r1 (by rw [Nat.add_assoc]; exact n (1 + s) (by omega)), m.tups _ _ h2⟩
theorem KnowAt.mv0 {ρ' : Ro} {H' : Hp} (h : KnowAt r ρ H k ea L kn) (m : Mv S0 ρ H ρ' H') : KnowAt r ρ' H' k ea L kn := by
  refine ⟨h.rep, m.at0 h.dict, m.ro h.dict h.role, fun s e he => ?_⟩
  obtain ⟨r1, t, h1, h2⟩ := h.ent s e he
  exact ⟨m.ro h1 r1, t, m.at0 h1, m.tups _ _ h2⟩
theorem modE_at {kn : Kn} {s : Nat} {e : Ent} (h : Kn.at kn s = some e) (f : Ent → Ent) : modE kn s f = kn.set s (some (f e)) := by
  unfold modE
  rw [h]
theorem set_len {kn : Kn} {s : Nat} {o : Option Ent} : (kn.set s o).length = kn.length := List.length_set
end
end Kb
set_option Elab.async false
set_option linter.all false
set_option maxRecDepth 100000
set_option maxHeartbeats 4000000
namespace Kb
open PySem PySem.Spec PyProof.Rows L2
section
variable {P : Program} {w : World} {K : PySem.W.Frag} {mg : Str → Option Value} {base : Heap}
theorem begin_some {m : Mem} {b s : Nat} (h : slotOf m.kn b = some s) : begin_ m b = (some s, { m with kn := modE m.kn s (fun e => touch e m.begun), begun := m.begun + 1, hits := m.hits + 1 }) := by
  unfold begin_
  rw [h]
theorem begin_none {m : Mem} {b : Nat} (h : slotOf m.kn b = none) : begin_ m b = (none, { m with begun := m.begun + 1 }) := by
  unfold begin_
  rw [h]
def sp_begin (K : PySem.W.Frag) : Sp := Sp2 fun a b H Q => ∃ (c : Cfg) (ρ : Ro) (p : Addr) (m : Mem) (D : Ds) (on : Bool) (n : Nat), a = .ref p ∧ b = .int (n : Int) ∧ PairAt K c ρ H p m D on ∧ Uq m.kn ∧
  ∀ (ρ' : Ro) (H' : Hp), PairAt K c ρ' H' p (begin_ m n).2 D on → Mv SP ρ H ρ' H' → Q (oV (begin_ m n).1) H'
theorem sc_P_begin : FnScope ["self", "block", "slot"] ["self", "block"] (defScope s_P_begin) := ⟨rfl, rfl, rfl, by decide +kernel, rfl, by decide +kernel, by decide +kernel⟩
theorem m_P_begin (T : Txt K mg) : C8.Met P w K mg base 2 (He.ga K "Pair") "begin" (sp_begin K) [] := by
  refine met_of T.F_P_begin T.cl_Pair T.mt_Pair_begin sc_P_begin len2 (fun _ _ _ _ _ _ us hl => match us, hl with | [_, _], _ => rfl) (fun cdv A outer s H vs Q E hr h => ?_)
  obtain ⟨a, b, rfl, c, ρ, p, m, D, on, n, rfl, rfl, ⟨A, h0⟩, u, k⟩ := h
  obtain ⟨dn, ho⟩ := h0.obj
  refine ⟨_, pss_cons (ps_set (i := 2) sc_P_begin.nd rfl (.inl rfl) (C8.pe_mt (m_P_slot_of T) hr (by decide) (pv 0) (pa_cons (pv 1) pa_nil)))
      (pss_cons (ps_if (pt_cmpR op_notN (pv 2) (pe_non) (nomark _)) (pss_cons (ps_asg (pe_fld (pv 0) rfl) (pg_sub (pe_dget (hu_of hr) (pe_fld (pv 0) rfl) (pv 2) (fun _ _ => rfl)) (pe_int) set_list))
      (pss_cons (ps_asg (pe_callB (call_min2 rfl) (by rfl) T.f_min (by decide +kernel) (pa_cons (C8.pe_gc rfl (gci T.i_MAX_USES)) (pa_cons (pe_op op_add (pe_ix ix_list (pe_dget (hu_of hr) (pe_fld (pv 0) rfl) (pv 2) (fun _ _ => rfl)) (pe_int) (fun _ _ => rfl)) (pe_int)) pa_nil))) (pg_sub (pe_dget (hu_of hr) (pe_fld (pv 0) rfl) (pv 2) (fun _ _ => rfl)) (pe_int) set_list))
      (pss_one (ps_fldaug (pv 0) (pe_int) in_add)))) (pss_nil))
      (pss_cons (ps_fldaug (pv 0) (pe_int) in_add)
      (pss_one (ps_ret (pv 2))))), ?_⟩
  refine ⟨_, rfl, p, A.dx, _, rfl, ho, rfl, _, rfl, _, _, rfl, c, ρ, p, m, D, on, n, rfl, rfl, ⟨A, h0⟩, u, fun ρ1 H1 m1 => ?_⟩
  have h := h0.mv0 m1
  cases hsl : slotOf m.kn n with
  | none =>
    rw [begin_none hsl] at k
    obtain ⟨dn1, ho1⟩ := h.obj
    refine ⟨_, rfl, rfl, _, rfl, ite_ff nn_non ?_⟩
    refine ⟨_, rfl, p, _, A.dx, _, _, rfl, ho1, T.cl_Pair, T.na_Pair_begun, rfl, _, _, rfl, rfl, A.dx, _, ho1, (show (13 : Nat) < 1000 by decide), ?_⟩
    obtain ⟨g2, m2⟩ := h.obj' m.turn (m.begun + 1) m.hits on dn1
    exact ⟨_, rfl, k _ _ ⟨A, g2⟩ ((m1.mono s0_sp).trans (m2.mono (s1_sp (by decide) (by decide))))⟩
  | some s =>
    rw [begin_some hsl] at k
    obtain ⟨dn1, ho1⟩ := h.obj
    obtain ⟨hk8, ea, L, hk⟩ := h.kn
    obtain ⟨e, he, hb⟩ := slotOf_at hsl
    obtain ⟨r1, t, h1, h2⟩ := hk.ent s e he
    have npe : p ≠ ea s := ne_of ho1 h1 (by intro z; cases z)
    have dg := hk.dget (s := s)
    rw [he] at dg
    refine ⟨_, rfl, rfl, _, rfl, ite_tt (by simp [oV]) ?_⟩
    refine ⟨_, rfl, p, _, A.dx, _, _, rfl, ho1, T.cl_Pair, T.na_Pair_begun, rfl, ?_⟩
    refine ⟨_, rfl, p, _, A.dx, _, _, rfl, ho1, T.cl_Pair, T.na_Pair_slots, rfl, _, rfl, A.ak, _, rfl, dg, ea s, _, _, 2, rfl, rfl, h1, rfl, ?_⟩
    have m2 := hk.mvE hk8 he (.lst (entV t { e with used := m.begun }))
    have hk2 := hk.setE (e' := { e with used := m.begun }) he h2
    have ho2 := (upd_ne (o := .lst (entV t { e with used := m.begun })) npe).trans ho1
    have he2 : Kn.at (m.kn.set s (some { e with used := m.begun })) s = some { e with used := m.begun } := by rw [at_set (at_lt he), if_pos rfl]
    have dg2 := hk2.dget (s := s)
    rw [he2] at dg2
    have h12 : upd H1 (ea s) (.lst (entV t { e with used := m.begun })) (ea s) = some (.lst (entV t { e with used := m.begun })) := upd_same
    refine ⟨_, rfl, p, _, A.dx, _, _, rfl, ho2, T.cl_Pair, T.na_Pair_slots, rfl, _, rfl, A.ak, _, rfl, dg2, ea s, _, _, _, rfl, rfl, SqL.of h12, rfl, _, _, rfl, rfl, ?_⟩
    refine ⟨_, _, rfl, _, rfl, p, _, A.dx, _, _, rfl, ho2, T.cl_Pair, T.na_Pair_slots, rfl, _, rfl, A.ak, _, rfl, dg2, ea s, _, _, 3, rfl, rfl, h12, rfl, ?_⟩
    have h2' : upd H1 (ea s) (.lst (entV t { e with used := m.begun })) t = some (.tup (recV e.r)) := (upd_ne (ne_of h2 h1 (by intro z; cases z))).trans h2
    have hk3 := hk2.setE (e' := touch e m.begun) he2 h2'
    have m3 := hk2.mvE (by rw [set_len]; exact hk8) he2 (.lst (entV t (touch e m.begun)))
    rw [List.set_set] at hk3
    have mE := modE_at he (fun e => touch e m.begun)
    have g3 := h.know' (kn := m.kn.set s (some (touch e m.begun))) set_len ⟨by rw [set_len]; exact hk8, _, _, hk3⟩ (m2.trans m3)
    rw [mE] at k
    obtain ⟨dn3, ho3⟩ := g3.obj
    refine ⟨_, rfl, p, _, A.dx, _, _, rfl, ho3, T.cl_Pair, T.na_Pair_found, rfl, _, _, rfl, rfl, A.dx, _, ho3, (show (13 : Nat) < 1000 by decide), ?_⟩
    obtain ⟨g4, m4⟩ := g3.obj' m.turn m.begun (m.hits + 1) on dn3
    obtain ⟨dn4, ho4⟩ := g4.obj
    refine ⟨_, rfl, p, _, A.dx, _, _, rfl, upd_same, T.cl_Pair, T.na_Pair_begun, rfl, _, _, rfl, rfl, A.dx, _, upd_same, (show (13 : Nat) < 1000 by decide), ?_⟩
    obtain ⟨g5, m5⟩ := g4.obj' m.turn (m.begun + 1) (m.hits + 1) on dn3
    exact ⟨_, rfl, k _ _ ⟨A, g5⟩ (((m1.mono s0_sp).trans ((m2.trans m3).mono sk_sp)).trans ((m4.mono (s1_sp (by decide) (by decide))).trans (m5.mono (s1_sp (by decide) (by decide)))))⟩
theorem know_same {m : Mem} {s : Nat} {r : Rec} {e : Ent} (h : Kn.at m.kn s = some e) (hb : e.r.b = r.b) : know m s r = { m with kn := m.kn.set s (some { e with r := r }) } := by
  unfold know knowE
  rw [h]
  show ({ m with kn := m.kn.set s (some (if e.r.b = r.b then { e with r := r } else ⟨r, m.begun - 1, m.begun - 1, 1⟩)) } : Mem) = _
  rw [if_pos hb]
theorem know_new {m : Mem} {s : Nat} {r : Rec} (h : ∀ e, Kn.at m.kn s = some e → e.r.b ≠ r.b) : know m s r = { m with kn := m.kn.set s (some ⟨r, m.begun - 1, m.begun - 1, 1⟩) } := by
  unfold know knowE
  cases q : Kn.at m.kn s with
  | none => rfl
  | some e =>
    show ({ m with kn := m.kn.set s (some (if e.r.b = r.b then { e with r := r } else ⟨r, m.begun - 1, m.begun - 1, 1⟩)) } : Mem) = _
    rw [if_neg (h e q)]
def sp_put (K : PySem.W.Frag) : Sp := Sp3 fun a b e H Q => ∃ (c : Cfg) (ρ : Ro) (p : Addr) (m : Mem) (D : Ds) (on : Bool) (n : Nat) (rc : Rec), a = .ref p ∧ b = .int (n : Int) ∧ RecAt H rc e ∧ PairAt K c ρ H p m D on ∧ n < D.fast.sh.length ∧ n < m.kn.length ∧ D.fast.wt.length < 1000000 ∧
  ∀ (ρ' : Ro) (H' : Hp), PairAt K c ρ' H' p (know m n rc) (app D (.fast n (some rc))) on → Mv SP ρ H ρ' H' → Q .non H'
theorem sc_P_put : FnScope ["self", "slot", "record", "now"] ["self", "slot", "record"] (defScope s_P_put) := ⟨rfl, rfl, rfl, by decide +kernel, rfl, by decide +kernel, by decide +kernel⟩
theorem m_P_put (T : Txt K mg) : C8.Met P w K mg base 6 (He.ga K "Pair") "put" (sp_put K) [] := by
  refine met_of T.F_P_put T.cl_Pair T.mt_Pair_put sc_P_put len3 (fun _ _ _ _ _ _ us hl => match us, hl with | [_, _, _], _ => rfl) (fun cdv A outer s H vs Q E hr h => ?_)
  obtain ⟨a, b, ev, rfl, c, ρ, p, m, D, on, n, rc, rfl, rfl, ⟨tr, rfl, htr⟩, ⟨A0, h0⟩, hn, hn2, hw, k⟩ := h
  obtain ⟨dn, ho⟩ := h0.obj
  refine ⟨_, pss_cons (ps_expr (C8.pe_mt (m_P_write_fast T) hr (by decide) (pv 0) (pa_cons (pv 1) (pa_cons (pv 2) pa_nil))))
      (pss_cons (ps_set (i := 3) sc_P_put.nd rfl (.inl rfl) (pe_op op_sub (pe_fld (pv 0) rfl) (pe_int)))
      (pss_one (ps_if (PW.pt (pw_and (pt_cmp (pc_din (hu_of hr) (pv 1) (pe_fld (pv 0) rfl))) (pw_and1 (pt_cmpR op_eq (pe_ix ix_tup (pe_ix ix_list (pe_dget (hu_of hr) (pe_fld (pv 0) rfl) (pv 1) (fun _ _ => rfl)) (pe_int) (fun _ _ => rfl)) (pe_int) (fun _ _ => rfl)) (pe_ix ix_tup (pv 2) (pe_int) (fun _ _ => rfl)) (nomark _))))) (pss_one (ps_asg (pv 2) (pg_sub (pe_dget (hu_of hr) (pe_fld (pv 0) rfl) (pv 1) (fun _ _ => rfl)) (pe_int) set_list))) (pss_one (ps_dput (hu_of hr) (pe_fld (pv 0) rfl) (pv 1) (pe_lst (pa_cons (pv 2) (pa_cons (pv 3) (pa_cons (pv 3) (pa_cons (pe_int) pa_nil))))) rfl))))), ?_⟩
  refine ⟨_, rfl, p, A0.dx, _, rfl, ho, rfl, _, rfl, _, rfl, _, _, _, rfl, c, ρ, p, m, D, on, n, some rc, rfl, rfl, ⟨tr, rfl, htr⟩, ⟨A0, h0⟩, hn, hn2, hw, fun ρ1 H1 ⟨A, h⟩ m1 => ?_⟩
  obtain ⟨dn1, ho1⟩ := h.obj
  obtain ⟨hk8, ea, L, hk⟩ := h.kn
  have htr1 := m1.tups _ _ htr
  have dg := hk.dget (s := n)
  refine ⟨_, rfl, p, _, A.dx, _, _, rfl, ho1, T.cl_Pair, T.na_Pair_begun, rfl, _, _, rfl, rfl, ?_⟩
  have new : ∀ (σ : L2.St), σ = [some (.ref p), some (.int (n : Int)), some (.ref tr), some (.int (m.begun - 1))] → (∀ e, Kn.at m.kn n = some e → e.r.b ≠ rc.b) → ∀ q, H1 q = none → upd H1 q (.lst (entV tr ⟨rc, m.begun - 1, m.begun - 1, 1⟩)) p = some (.ins (He.ga K "Pair") A.dx (pairF A m.turn m.begun m.hits on dn1)) ∧
      ∃ H4, DPut (upd H1 q (.lst (entV tr ⟨rc, m.begun - 1, m.begun - 1, 1⟩))) A.ak (.int (n : Int)) (.ref q) H4 ∧ Q .non H4 := fun σ e0 hne q hq => by
    have m2 : Mv S0 ρ1 H1 _ _ := Mv.refl.new hq (1030 + 1 + n) (.lst (entV tr ⟨rc, m.begun - 1, m.begun - 1, 1⟩))
    have h2 := h.mv0 m2
    have hk2 := hk.mv0 m2
    refine ⟨m2.at0 ho1, _, DPut.k (k := Sum.inl (n : Int)) hk2.dict (by
      unfold sizeLine
      rw [kvs_len]
      have := hk.rep.len
      omega), ?_⟩
    obtain ⟨ea', L', hk3⟩ := hk2.putA (e := ⟨rc, m.begun - 1, m.begun - 1, 1⟩) hn2 upd_same rs_same (m2.tups _ _ htr1)
    have m3 := hk2.mvK (.dK (putK (kvs ea L) (Sum.inl (n : Int)) (.ref q)))
    have g3 := h2.know' (kn := m.kn.set n (some ⟨rc, m.begun - 1, m.begun - 1, 1⟩)) set_len ⟨by rw [set_len]; exact hk8, _, _, hk3⟩ m3
    rw [know_new hne] at k
    exact k _ _ ⟨A, g3⟩ ((m1.trans (m2.mono s0_sp)).trans (m3.mono sk_sp))
  refine ⟨_, rfl, _, rfl, p, _, A.dx, _, _, rfl, ho1, T.cl_Pair, T.na_Pair_slots, rfl, A.ak, _, rfl, dg, _, rfl, ?_⟩
  cases he : Kn.at m.kn n with
  | none =>
    refine iteF (iteF ?_)
    refine ⟨_, rfl, _, rfl, _, rfl, (show (4 : Nat) ≤ sizeLine by decide), fun q hq => ?_⟩
    obtain ⟨x1, H4, x2, x3⟩ := new _ rfl (fun e z => by rw [he] at z; cases z) q hq
    exact ⟨_, rfl, p, _, A.dx, _, _, rfl, x1, T.cl_Pair, T.na_Pair_slots, rfl, _, rfl, A.ak, H4, rfl, x2, x3⟩
  | some e =>
    rw [he] at dg
    obtain ⟨r1, t, h1, h2⟩ := hk.ent n e he
    refine iteT ⟨_, rfl, p, _, A.dx, _, _, rfl, ho1, T.cl_Pair, T.na_Pair_slots, rfl, _, rfl, A.ak, _, rfl, dg, ea n, _, _, _, rfl, rfl, SqL.of h1, rfl, t, _, _, _, rfl, rfl, SqT.of h2, rfl, _, rfl, tr, _, _, _, rfl, rfl, SqT.of htr1, rfl, rfl, _, rfl, ?_⟩
    by_cases hb : e.r.b = rc.b
    · refine ite_tt (decide_eq_true (by rw [hb])) ?_
      refine ⟨_, rfl, _, rfl, p, _, A.dx, _, _, rfl, ho1, T.cl_Pair, T.na_Pair_slots, rfl, _, rfl, A.ak, _, rfl, dg, ea n, _, _, 0, rfl, rfl, h1, rfl, ?_⟩
      have hk3 := hk.setE (e' := { e with r := rc }) he htr1
      have m3 := hk.mvE hk8 he (.lst (entV tr { e with r := rc }))
      have g3 := h.know' (kn := m.kn.set n (some { e with r := rc })) set_len ⟨by rw [set_len]; exact hk8, _, _, hk3⟩ m3
      rw [know_same he hb] at k
      exact k _ _ ⟨A, g3⟩ (m1.trans (m3.mono sk_sp))
    · refine ite_ff (decide_eq_false fun z => hb (by injection z with z; omega)) ?_
      refine ⟨_, rfl, _, rfl, _, rfl, (show (4 : Nat) ≤ sizeLine by decide), fun q hq => ?_⟩
      obtain ⟨x1, H4, x2, x3⟩ := new _ rfl (fun e' z => by rw [he] at z; cases z; exact hb) q hq
      exact ⟨_, rfl, p, _, A.dx, _, _, rfl, x1, T.cl_Pair, T.na_Pair_slots, rfl, _, rfl, A.ak, H4, rfl, x2, x3⟩
end
end Kb
set_option Elab.async false
set_option linter.all false
set_option maxRecDepth 100000
set_option maxHeartbeats 4000000
/-! Sorted pairs, least rows: nothing depends on the order of the dict. -/
namespace Kb
open PySem PySem.Spec PyProof.Rows L2
/-! ### order of pairs -/
theorem ple_iff {a b : Int × Nat} : ple a b = true ↔ a.1 < b.1 ∨ (a.1 = b.1 ∧ a.2 ≤ b.2) := by
  unfold ple
  rw [Bool.or_eq_true, Bool.and_eq_true, decide_eq_true_iff, decide_eq_true_iff, decide_eq_true_iff]
theorem ple_anti {a b : Int × Nat} (h1 : ple a b = true) (h2 : ple b a = true) : a = b := by
  have a1 := ple_iff.mp h1
  have a2 := ple_iff.mp h2
  exact Prod.ext (by omega) (by omega)
theorem ple_tot {a b : Int × Nat} (h : ple a b = false) : ple b a = true := by
  have q : ¬ (a.1 < b.1 ∨ (a.1 = b.1 ∧ a.2 ≤ b.2)) := fun z => by rw [ple_iff.mpr z] at h; cases h
  exact ple_iff.mpr (by omega)
theorem ple_trans {a b c : Int × Nat} (h1 : ple a b = true) (h2 : ple b c = true) : ple a c = true := by
  have a1 := ple_iff.mp h1
  have a2 := ple_iff.mp h2
  exact ple_iff.mpr (by omega)
def Sd (l : List (Int × Nat)) : Prop := l.Pairwise fun a b => ple a b = true
theorem ins_perm (x : Int × Nat) : ∀ l, (ins x l).Perm (x :: l)
  | [] => .refl _
  | y :: r => by
    unfold ins
    by_cases h : ple x y = true
    · rw [if_pos h]
    · rw [if_neg h]
      exact ((ins_perm x r).cons y).trans (.swap x y r)
theorem srt_perm : ∀ l, (srt l).Perm l
  | [] => .refl _
  | x :: r => (ins_perm x (srt r)).trans ((srt_perm r).cons x)
theorem ins_sd (x : Int × Nat) : ∀ l, Sd l → Sd (ins x l)
  | [], _ => List.pairwise_singleton _ _
  | y :: r, h => by
    unfold ins
    by_cases q : ple x y = true
    · rw [if_pos q]
      refine List.pairwise_cons.mpr ⟨fun z hz => ?_, h⟩
      rcases List.mem_cons.mp hz with e | m
      · rw [e]; exact q
      · exact ple_trans q ((List.pairwise_cons.mp h).1 z m)
    · rw [if_neg q]
      refine List.pairwise_cons.mpr ⟨fun z hz => ?_, ins_sd x r (List.pairwise_cons.mp h).2⟩
      rcases List.mem_cons.mp ((ins_perm x r).mem_iff.mp hz) with e | m
      · rw [e]; exact ple_tot (by simpa using q)
      · exact (List.pairwise_cons.mp h).1 z m
theorem srt_sd : ∀ l, Sd (srt l)
  | [] => List.Pairwise.nil
  | x :: r => ins_sd x _ (srt_sd r)
theorem sd_uniq : ∀ {l m : List (Int × Nat)}, l.Perm m → Sd l → Sd m → l = m
  | [], m, p, _, _ => (List.nil_perm.mp p).symm
  | a :: l, [], p, _, _ => absurd (List.perm_nil.mp p) (by simp)
  | a :: l, b :: m, p, h1, h2 => by
    have e : a = b := by
      have m1 : a ∈ b :: m := p.mem_iff.mp List.mem_cons_self
      have m2 : b ∈ a :: l := p.mem_iff.mpr List.mem_cons_self
      rcases List.mem_cons.mp m1 with z | z
      · exact z
      · rcases List.mem_cons.mp m2 with y | y
        · exact y.symm
        · exact ple_anti ((List.pairwise_cons.mp h1).1 b y) ((List.pairwise_cons.mp h2).1 a z)
    subst e
    rw [sd_uniq p.cons_inv (List.pairwise_cons.mp h1).2 (List.pairwise_cons.mp h2).2]
theorem srt_of {l m : List (Int × Nat)} (p : l.Perm m) (h : Sd l) : l = srt m := sd_uniq (p.trans (srt_perm m).symm) h (srt_sd m)
/-! ### lists with the same members -/
theorem perm_nd {α : Type} : ∀ {l m : List α}, l.Nodup → m.Nodup → (∀ x, x ∈ l ↔ x ∈ m) → l.Perm m
  | [], m, _, _, h => by
    cases m with
    | nil => exact .refl _
    | cons a m => exact absurd ((h a).mpr List.mem_cons_self) List.not_mem_nil
  | a :: l, m, n1, n2, h => by
    obtain ⟨s, t, e⟩ := List.append_of_mem ((h a).mp List.mem_cons_self)
    subst e
    have p : (s ++ a :: t).Perm (a :: (s ++ t)) := List.perm_middle
    refine (List.Perm.cons a (perm_nd (List.nodup_cons.mp n1).2 (List.nodup_cons.mp (p.nodup_iff.mp n2)).2 fun x => ?_)).trans p.symm
    have hx := h x
    have na := (List.nodup_cons.mp n1).1
    have nb := (List.nodup_cons.mp (p.nodup_iff.mp n2)).1
    rw [p.mem_iff, List.mem_cons, List.mem_cons] at hx
    constructor
    · intro q
      rcases hx.mp (.inr q) with z | z
      · rw [z] at q; exact absurd q na
      · exact z
    · intro q
      rcases hx.mpr (.inr q) with z | z
      · rw [z] at q; exact absurd q nb
      · exact z
/-- the known slots in their order -/
def canon (kn : Kn) : List (Nat × Ent) := (List.range kn.length).filterMap fun s => (Kn.at kn s).map fun e => (s, e)
theorem canon_mem {kn : Kn} {s : Nat} {e : Ent} : (s, e) ∈ canon kn ↔ Kn.at kn s = some e := by
  unfold canon
  rw [List.mem_filterMap]
  constructor
  · rintro ⟨j, _, h⟩
    cases q : Kn.at kn j with
    | none => rw [q] at h; cases h
    | some e' =>
      rw [q] at h
      cases h
      exact q
  · intro h
    exact ⟨s, List.mem_range.mpr (at_lt h), by rw [h]; rfl⟩
theorem canon_sd (kn : Kn) : ((canon kn).map (·.1)).Pairwise (· < ·) := by
  unfold canon
  have key : ∀ l : List Nat, l.Pairwise (· < ·) → ((l.filterMap fun s => (Kn.at kn s).map fun e => (s, e)).map (·.1)).Pairwise (· < ·) ∧ ∀ x ∈ (l.filterMap fun s => (Kn.at kn s).map fun e => (s, e)).map (·.1), x ∈ l := by
    intro l
    induction l with
    | nil => intro _; exact ⟨List.Pairwise.nil, fun x h => by cases h⟩
    | cons a l ih =>
      intro h
      obtain ⟨i1, i2⟩ := ih (List.pairwise_cons.mp h).2
      cases q : Kn.at kn a with
      | none =>
        rw [List.filterMap_cons_none (by rw [q]; rfl)]
        exact ⟨i1, fun x hx => List.mem_cons_of_mem _ (i2 x hx)⟩
      | some e =>
        rw [List.filterMap_cons_some (b := (a, e)) (by rw [q]; rfl)]
        refine ⟨List.pairwise_cons.mpr ⟨fun x hx => (List.pairwise_cons.mp h).1 x (i2 x hx), i1⟩, fun x hx => ?_⟩
        rcases List.mem_cons.mp hx with z | z
        · rw [z]; exact List.mem_cons_self
        · exact List.mem_cons_of_mem _ (i2 x z)
  exact (key _ List.pairwise_lt_range).1
theorem canon_nd (kn : Kn) : (canon kn).Nodup := by
  have h := canon_sd kn
  rw [List.pairwise_map] at h
  exact h.imp fun {a b} q z => by rw [z] at q; exact Nat.lt_irrefl _ q
theorem LRep.perm {L : List (Nat × Ent)} {kn : Kn} (h : LRep L kn) : L.Perm (canon kn) := by
  refine perm_nd ?_ (canon_nd kn) fun x => ?_
  · have nd := h.nd
    unfold List.Nodup at nd
    rw [List.pairwise_map] at nd
    exact nd.imp fun {a b} q z => q (by rw [z])
  · rw [h.mem x.1 x.2, canon_mem]
/-- what a comprehension over the items gives, by the turn -/
theorem fm_range {α β : Type} (g : α → Option β) : ∀ L : List α, (List.range L.length).filterMap (fun i => L[i]?.bind g) = L.filterMap g := by
  intro L
  have key : ∀ n, n ≤ L.length → (List.range n).filterMap (fun i => L[i]?.bind g) = (L.take n).filterMap g := by
    intro n
    induction n with
    | zero => intro _; rfl
    | succ n ih =>
      intro h
      rw [List.range_succ, List.filterMap_append, ih (by omega), List.take_succ, List.filterMap_append]
      congr 1
      have e : L[n]? = some L[n] := List.getElem?_eq_getElem (by omega)
      rw [List.filterMap_cons, e]
      cases q : g L[n] with
      | none => simp [q]
      | some y => simp [q]
  rw [key _ (Nat.le_refl _), List.take_length]
theorem fm_congr {α β : Type} {f g : α → Option β} : ∀ {l : List α}, (∀ x ∈ l, f x = g x) → l.filterMap f = l.filterMap g
  | [], _ => rfl
  | a :: l, h => by
    rw [List.filterMap_cons, List.filterMap_cons, h a List.mem_cons_self, fm_congr fun x hx => h x (List.mem_cons_of_mem _ hx)]
def gDirt : Nat × Ent → Option (Int × Nat) := fun x => if x.2.r.d = true then some (x.2.r.t, x.1) else none
theorem dirt_canon (kn : Kn) : dirt kn = (canon kn).filterMap gDirt := by
  unfold dirt canon
  rw [List.filterMap_filterMap]
  refine fm_congr fun s _ => ?_
  cases Kn.at kn s with
  | none => rfl
  | some e => rfl
theorem dirt_perm {L : List (Nat × Ent)} {kn : Kn} (h : LRep L kn) : (L.filterMap gDirt).Perm (dirt kn) := by
  rw [dirt_canon]
  exact h.perm.filterMap _
def gClear : Nat × Ent → Option Nat := fun x => if (!x.2.r.d) = true then some x.1 else none
theorem clears_canon (kn : Kn) : clears kn = (canon kn).filterMap gClear := by
  unfold clears canon
  rw [List.filterMap_filterMap, ← List.filterMap_eq_filter]
  refine fm_congr fun s _ => ?_
  cases q : Kn.at kn s with
  | none => simp [Option.guard, q]
  | some e =>
    cases h : e.r.d with
    | true => simp [Option.guard, gClear, q, h]
    | false => simp [Option.guard, gClear, q, h]
theorem clears_perm {L : List (Nat × Ent)} {kn : Kn} (h : LRep L kn) : (L.filterMap gClear).Perm (clears kn) := by
  rw [clears_canon]
  exact h.perm.filterMap _
/-! ### rows -/
theorem lex_eq : ∀ a b : List Int, lexLt a b = HT.lexLt a b
  | [], [] => rfl
  | [], _ :: _ => rfl
  | _ :: _, [] => rfl
  | x :: r, y :: q => by
    show (decide (x < y) || (decide (x = y) && lexLt r q)) = if x = y then HT.lexLt r q else decide (x < y)
    rw [lex_eq r q]
    by_cases h : x = y
    · rw [if_pos h, decide_eq_true h, decide_eq_false (by omega)]
      rfl
    · rw [if_neg h, decide_eq_false h]
      simp
theorem lex_cons {x y : Int} {r q : List Int} : lexLt (x :: r) (y :: q) = true ↔ x < y ∨ (x = y ∧ lexLt r q = true) := by
  show (decide (x < y) || (decide (x = y) && lexLt r q)) = true ↔ _
  rw [Bool.or_eq_true, Bool.and_eq_true, decide_eq_true_iff, decide_eq_true_iff]
theorem lex_irr : ∀ a : List Int, lexLt a a = false
  | [] => rfl
  | x :: r => by
    cases h : lexLt (x :: r) (x :: r) with
    | false => rfl
    | true =>
      rcases lex_cons.mp h with z | ⟨_, z⟩
      · omega
      · rw [lex_irr r] at z; cases z
theorem lex_trans : ∀ {a b c : List Int}, lexLt a b = true → lexLt b c = true → lexLt a c = true
  | [], [], _, h, _ => by cases h
  | [], _ :: _, [], _, h => by cases h
  | [], _ :: _, _ :: _, _, _ => rfl
  | _ :: _, [], _, h, _ => by cases h
  | _ :: _, _ :: _, [], _, h => by cases h
  | x :: r, y :: q, z :: s, h1, h2 => by
    rcases lex_cons.mp h1 with a | ⟨a, a'⟩ <;> rcases lex_cons.mp h2 with b | ⟨b, b'⟩
    · exact lex_cons.mpr (.inl (by omega))
    · exact lex_cons.mpr (.inl (by omega))
    · exact lex_cons.mpr (.inl (by omega))
    · exact lex_cons.mpr (.inr ⟨by omega, lex_trans a' b'⟩)
theorem lex_tot : ∀ {a b : List Int}, lexLt a b = false → lexLt b a = false → a = b
  | [], [], _, _ => rfl
  | [], _ :: _, h, _ => by cases h
  | _ :: _, [], _, h => by cases h
  | x :: r, y :: q, h1, h2 => by
    have a1 : ¬ (x < y ∨ (x = y ∧ lexLt r q = true)) := fun z => by rw [lex_cons.mpr z] at h1; cases h1
    have a2 : ¬ (y < x ∨ (y = x ∧ lexLt q r = true)) := fun z => by rw [lex_cons.mpr z] at h2; cases h2
    have e : x = y := by omega
    subst e
    have b1 : lexLt r q = false := by
      cases z : lexLt r q with
      | false => rfl
      | true => exact absurd (.inr ⟨rfl, z⟩) a1
    have b2 : lexLt q r = false := by
      cases z : lexLt q r with
      | false => rfl
      | true => exact absurd (.inr ⟨rfl, z⟩) a2
    rw [lex_tot b1 b2]
section
variable {f : Nat → List Int}
theorem pick_fold : ∀ (l : List Nat) (s : Nat) (seen : List Nat), s ∈ seen → (∀ z ∈ seen, lexLt (f z) (f s) = false) →
    (l.foldl (fun a b => if lexLt (f b) (f a) then b else a) s) ∈ seen ++ l ∧ ∀ z ∈ seen ++ l, lexLt (f z) (f (l.foldl (fun a b => if lexLt (f b) (f a) then b else a) s)) = false
  | [], s, seen, h1, h2 => by
    rw [List.append_nil]
    exact ⟨h1, h2⟩
  | b :: l, s, seen, h1, h2 => by
    rw [List.foldl_cons]
    have e : seen ++ b :: l = (seen ++ [b]) ++ l := by simp
    rw [e]
    by_cases q : lexLt (f b) (f s) = true
    · rw [if_pos q]
      refine pick_fold l b (seen ++ [b]) (by simp) fun z hz => ?_
      rcases List.mem_append.mp hz with m | m
      · cases w : lexLt (f z) (f b) with
        | false => rfl
        | true =>
          have := lex_trans w q
          rw [h2 z m] at this
          cases this
      · rw [List.mem_singleton.mp m]
        exact lex_irr _
    · rw [if_neg q]
      refine pick_fold l s (seen ++ [b]) (by simp [h1]) fun z hz => ?_
      rcases List.mem_append.mp hz with m | m
      · exact h2 z m
      · rw [List.mem_singleton.mp m]
        simpa using q
theorem pick_min (s : Nat) (r : List Nat) : pick f (s :: r) ∈ s :: r ∧ ∀ z ∈ s :: r, lexLt (f z) (f (pick f (s :: r))) = false :=
  pick_fold r s [s] (by simp) fun z hz => by rw [List.mem_singleton.mp hz]; exact lex_irr _
theorem pick_perm {l m : List Nat} (p : l.Perm m) (inj : ∀ a ∈ l, ∀ b ∈ l, f a = f b → a = b) : pick f l = pick f m := by
  cases l with
  | nil => rw [List.nil_perm.mp p]
  | cons a l =>
    cases m with
    | nil => exact absurd (List.perm_nil.mp p) (by simp)
    | cons b m =>
      obtain ⟨x1, x2⟩ := pick_min (f := f) a l
      obtain ⟨y1, y2⟩ := pick_min (f := f) b m
      have y1' := p.mem_iff.mpr y1
      exact inj _ x1 _ y1' (lex_tot (by
        have := y2 _ (p.mem_iff.mp x1)
        exact this) (x2 _ y1'))
/-- the least row is the row of the slot that is picked -/
theorem least_pick : ∀ (r : List Nat) (s : Nat), leastL (f s) (r.map f) = f (pick f (s :: r))
  | [], s => rfl
  | b :: r, s => by
    show leastL (if HT.lexLt (f b) (f s) then f b else f s) (r.map f) = f (r.foldl _ (if lexLt (f b) (f s) then b else s))
    rw [lex_eq]
    by_cases q : HT.lexLt (f b) (f s) = true
    · rw [if_pos q, if_pos q]
      exact least_pick r b
    · rw [if_neg q, if_neg q]
      exact least_pick r s
end
theorem row_last (c : Cho) (e : Ent) (s : Nat) : (row c e s).getLast? = some (s : Int) := by cases c <;> rfl
theorem rowAt_inj {c : Cho} {kn : Kn} {a b : Nat} (h : rowAt c kn a = rowAt c kn b) : a = b := by
  have key : ∀ s, (rowAt c kn s).getLast? = some (s : Int) := fun s => by
    unfold rowAt
    cases Kn.at kn s with
    | none => rfl
    | some e => exact row_last c e s
  have e := key a
  rw [h, key b] at e
  exact (Int.ofNat.inj (Option.some.inj e)).symm
end Kb
set_option Elab.async false
set_option linter.all false
set_option maxRecDepth 100000
set_option maxHeartbeats 4000000
/-! Lists of ints, of texts, compared. -/
namespace Kb
open PySem PySem.Spec PyProof.Rows L2
theorem intsD_lay : ∀ l : List Int, PyData.canLayAll0 (l.map PyData.int) = true
  | [] => by simp [PyData.canLayAll0]
  | a :: l => by
    have h := intsD_lay l
    simp only [List.map_cons, PyData.canLayAll0, PyData.canLay0, h, Bool.and_true]
theorem intsD_depth : ∀ l : List Int, PyData.depthAll (l.map PyData.int) ≤ 1
  | [] => by simp [PyData.depthAll]
  | a :: l => by
    have h := intsD_depth l
    simp only [List.map_cons, PyData.depthAll, PyData.depth]
    omega
theorem intsD_shaped (l : List Int) : SeqAt.shaped (.list (l.map PyData.int)) = true := by
  have h1 := intsD_depth l
  have h2 : PyData.depth (.list (l.map PyData.int)) ≤ 64 := by
    simp only [PyData.depth]
    omega
  show (PyData.canLay0 (.list (l.map PyData.int)) && decide (PyData.depth (.list (l.map PyData.int)) ≤ 64)) = true
  rw [Bool.and_eq_true]
  exact ⟨by simp only [PyData.canLay0]; exact intsD_lay l, decide_eq_true h2⟩
def wdD (l : List Wd) : List PyData := l.map fun w => PyData.str (wdS w)
theorem wdS_ok (w : Wd) : PyData.canLay0 (.str (wdS w)) = true := by cases w <;> decide +kernel
theorem strsD_lay : ∀ l : List Wd, PyData.canLayAll0 (wdD l) = true
  | [] => by simp [wdD, PyData.canLayAll0]
  | a :: l => by
    have h := strsD_lay l
    unfold wdD at h
    simp only [wdD, List.map_cons, PyData.canLayAll0, wdS_ok, h, Bool.and_true]
theorem strsD_depth : ∀ l : List Wd, PyData.depthAll (wdD l) ≤ 1
  | [] => by simp [wdD, PyData.depthAll]
  | a :: l => by
    have h := strsD_depth l
    unfold wdD at h
    simp only [wdD, List.map_cons, PyData.depthAll, PyData.depth]
    omega
theorem strsD_shaped (l : List Wd) : SeqAt.shaped (.list (wdD l)) = true := by
  have h1 := strsD_depth l
  have h2 : PyData.depth (.list (wdD l)) ≤ 64 := by
    simp only [PyData.depth]
    omega
  show (PyData.canLay0 (.list (wdD l)) && decide (PyData.depth (.list (wdD l)) ≤ 64)) = true
  rw [Bool.and_eq_true]
  exact ⟨by simp only [PyData.canLay0]; exact strsD_lay l, decide_eq_true h2⟩
theorem dpI {K : PySem.W.Frag} {H : Hp} : ∀ l : List Int, DpAll K H (l.map V.int) (l.map PyData.int)
  | [] => .nil
  | a :: l => .cons (.int a) (dpI l)
theorem dpS {K : PySem.W.Frag} {H : Hp} : ∀ l : List Wd, DpAll K H (wdV l) (wdD l)
  | [] => .nil
  | a :: l => .cons (.str (wdS a)) (dpS l)
theorem eqAll_self : ∀ l : List Int, PyData.eqvAll (l.map PyData.int) (l.map PyData.int) = true
  | [] => by simp [PyData.eqvAll]
  | a :: l => by
    have h := eqAll_self l
    simp only [List.map_cons, PyData.eqvAll, PyData.eqv, h]
    simp
theorem eqv_self (l : List Int) : PyData.eqv (.list (l.map PyData.int)) (.list (l.map PyData.int)) = true := by
  simp only [PyData.eqv]
  exact eqAll_self l
theorem eqv_nilI (l : List Int) : PyData.eqv (.list (l.map PyData.int)) (.list []) = l.isEmpty := by
  simp only [PyData.eqv]
  cases l with
  | nil => simp [PyData.eqvAll]
  | cons a l => simp [PyData.eqvAll]
theorem eqv_nilS (l : List Wd) : PyData.eqv (.list (wdD l)) (.list []) = l.isEmpty := by
  simp only [PyData.eqv]
  cases l with
  | nil => simp [wdD, PyData.eqvAll]
  | cons a l => simp [wdD, PyData.eqvAll]
/-- a list of ints against the empty list -/
theorem shaped_nil : SeqAt.shaped (.list []) = true := intsD_shaped []
theorem eq_nil {K : PySem.W.Frag} {H : Hp} {a b : Addr} {l : List Int} {Q : VK} (ha : H a = some (.lst (l.map V.int))) (hb : H b = some (.lst [])) (q : Q (.bl l.isEmpty) H) : rEqD K (.ref a) (.ref b) H Q :=
  ⟨_, _, .lst (SqL.of ha) (dpI l), .lst (SqL.of hb) .nil, intsD_shaped l, intsD_shaped [], by rw [eqv_nilI]; exact q⟩
theorem ne_nil {K : PySem.W.Frag} {H : Hp} {a b : Addr} {l : List Int} {Q : VK} (ha : H a = some (.lst (l.map V.int))) (hb : H b = some (.lst [])) (q : Q (.bl (!l.isEmpty)) H) : rNeD K (.ref a) (.ref b) H Q :=
  ⟨_, _, .lst (SqL.of ha) (dpI l), .lst (SqL.of hb) .nil, intsD_shaped l, intsD_shaped [], by rw [eqv_nilI]; exact q⟩
theorem ne_nilS {K : PySem.W.Frag} {H : Hp} {a b : Addr} {l : List Wd} {Q : VK} (ha : H a = some (.lst (wdV l))) (hb : H b = some (.lst [])) (q : Q (.bl (!l.isEmpty)) H) : rNeD K (.ref a) (.ref b) H Q :=
  ⟨_, _, .lst (SqL.of ha) (dpS l), .lst (SqL.of hb) .nil, strsD_shaped l, strsD_shaped [], by rw [eqv_nilS]; exact q⟩
theorem ne_self {K : PySem.W.Frag} {H : Hp} {a b : Addr} {l : List Int} {Q : VK} (ha : H a = some (.lst (l.map V.int))) (hb : H b = some (.lst (l.map V.int))) (q : Q (.bl false) H) : rNeD K (.ref a) (.ref b) H Q :=
  ⟨_, _, .lst (SqL.of ha) (dpI l), .lst (SqL.of hb) (dpI l), intsD_shaped l, intsD_shaped l, by rw [eqv_self]; exact q⟩
/-! ### cells of slots, of pairs -/
def cN : Cell Nat := ⟨fun _ n v => v = .int (n : Int), fun _ h => h⟩
def natV (l : List Nat) : List V := l.map fun (n : Nat) => V.int (n : Int)
def natI (l : List Nat) : List Int := l.map fun (n : Nat) => (n : Int)
theorem natV_eq (l : List Nat) : natV l = (natI l).map V.int := by
  unfold natV natI
  rw [List.map_map]
  rfl
theorem nats_of {H : Hp} : ∀ {l : List Nat} {vs : List V}, All cN H l vs → vs = natV l
  | _, _, .nil => rfl
  | _, _, .cons r t => by rw [nats_of t, show _ = V.int _ from r]; rfl
def cP : Cell (Int × Nat) := ⟨fun H x v => ∃ t, v = .ref t ∧ H t = some (.tup [.int x.1, .int (x.2 : Int)]), fun k h => let ⟨t, e, q⟩ := h; ⟨t, e, k t _ q⟩⟩
/-- what sorted gives on a list of such pairs -/
def keyP (H : Hp) : V → Int × Int
  | .ref t => match H t with
    | some (.tup [.int a, .int b]) => (a, b)
    | _ => (0, 0)
  | _ => (0, 0)
theorem cP_key {H : Hp} {x : Int × Nat} {v : V} (h : cP.R H x v) : keyP H v = (x.1, (x.2 : Int)) := by
  obtain ⟨t, rfl, q⟩ := h
  show (match H t with | some (.tup [.int a, .int b]) => (a, b) | _ => (0, 0)) = _
  rw [q]
theorem all_perm {α : Type} {c : Cell α} {H : Hp} : ∀ {xs ys : List V}, ys.Perm xs → ∀ {l : List α}, All c H l xs → ∃ m : List α, m.Perm l ∧ All c H m ys := by
  intro xs ys p
  induction p with
  | nil => intro l h; exact ⟨l, .refl _, h⟩
  | cons x p ih =>
    intro l h
    cases h with
    | cons r t =>
      obtain ⟨m, h1, h2⟩ := ih t
      exact ⟨_ :: m, h1.cons _, .cons r h2⟩
  | swap x y l' =>
    intro l h
    cases h with
    | cons r t =>
      cases t with
      | cons r2 t2 => exact ⟨_, .swap _ _ _, .cons r2 (.cons r t2)⟩
  | trans p1 p2 i1 i2 =>
    intro l h
    obtain ⟨m, h1, h2⟩ := i2 h
    obtain ⟨m2, h3, h4⟩ := i1 h2
    exact ⟨m2, h3.trans h1, h4⟩
end Kb
set_option Elab.async false
set_option linter.all false
set_option maxRecDepth 100000
set_option maxHeartbeats 4000000
namespace Kb
open PySem PySem.Spec PyProof.Rows L2
theorem lk_ent {r : Nat} {ρ ρ' : Ro} {H H' : Hp} {k : Addr} {kn : Kn} {ea : Nat → Addr} {L : List (Nat × Ent)} {od : Obj} {i s : Nat} {e : Ent} (hk : KnowAt r ρ H k ea L kn) (hL : L[i]? = some (s, e)) (m : Mv S0 ρ (upd H k (.frz od (.dK (kvs ea L)))) ρ' H') :
    Kn.at kn s = some e ∧ ∃ t, H' (ea s) = some (.lst (entV t e)) ∧ H' t = some (.tup (recV e.r)) := by
  have hat := (hk.rep.mem s e).mp (List.mem_of_getElem? hL)
  obtain ⟨_, t, h1, h2⟩ := hk.ent s e hat
  exact ⟨hat, t, m.at0 ((upd_ne (ne_of h1 hk.dict (by intro z; cases z))).trans h1), m.at0 ((upd_ne (ne_of h2 hk.dict (by intro z; cases z))).trans h2)⟩
/-- sorted of such pairs -/
theorem sorted_pairs {K : PySem.W.Frag} {H : Hp} {a : Addr} {xs : List V} {l m : List (Int × Nat)} {Q : VK} (ha : H a = some (.lst xs)) (hx : All cP H l xs) (p : l.Perm m) (k : ∀ q ys, H q = none → All cP H (srt m) ys → Q (.ref q) (upd H q (.lst ys))) : rSortedPO K [.ref a] H Q := by
  refine ⟨a, xs, keyP H, rfl, SqL.of ha, fun x hx1 => ?_, fun ys q sd st hq => ?_⟩
  · obtain ⟨i, hi⟩ := List.mem_iff_getElem?.mp hx1
    obtain ⟨y, _, t, e, ht⟩ := hx.get' hi
    refine ⟨t, e, ?_⟩
    rw [cP_key ⟨t, e, ht⟩]
    exact ht
  · obtain ⟨l1, p1, h1⟩ := all_perm st.perm hx
    have hs : Sd l1 := by
      have key : ∀ {l : List (Int × Nat)} {ys : List V}, All cP H l ys → SrtO.Srtd (ltP (keyP H)) ys → Sd l := by
        intro l ys h
        induction h with
        | nil => intro _; exact List.Pairwise.nil
        | @cons x v l ys r t ih =>
          intro sd
          obtain ⟨s1, s2⟩ := List.pairwise_cons.mp sd
          refine List.pairwise_cons.mpr ⟨fun b hb => ?_, ih s2⟩
          obtain ⟨j, hj⟩ := List.mem_iff_getElem?.mp hb
          obtain ⟨u, hu, ru⟩ := All.get (c := cP) t hj
          have q := s1 u (List.mem_of_getElem? hu)
          have q2 : SrtO.lexB (keyP H u) (keyP H v) = false := q
          rw [cP_key r, cP_key ru] at q2
          have q3 := SrtO.lexB_no.mp q2
          exact ple_iff.mpr (by simp only at q3; omega)
      exact key h1 sd
    rw [srt_of (p1.trans p) hs] at h1
    exact k q ys hq h1
section
variable {P : Program} {w : World} {K : PySem.W.Frag} {mg : Str → Option Value} {base : Heap}
def sp_dirty_slots (K : PySem.W.Frag) : Sp := Sp1 fun a H Q => ∃ (c : Cfg) (ρ : Ro) (p : Addr) (m : Mem) (D : Ds) (on : Bool), a = .ref p ∧ PairAt K c ρ H p m D on ∧
  ∀ ρ' H' q ys, Mv S0 ρ H ρ' H' → ρ' q = 0 → H' q = some (.lst ys) → All cP H' (oldest m.kn) ys → Q (.ref q) H'
theorem sc_P_dirty_slots : FnScope ["self", "slot", "entry"] ["self"] (defScope s_P_dirty_slots) := ⟨rfl, rfl, rfl, by decide +kernel, rfl, by decide +kernel, by decide +kernel⟩
theorem m_P_dirty_slots (T : Txt K mg) : C8.Met P w K mg base 1 (He.ga K "Pair") "dirty_slots" (sp_dirty_slots K) [] := by
  refine met_of T.F_P_dirty_slots T.cl_Pair T.mt_Pair_dirty_slots sc_P_dirty_slots len1 (fun _ _ _ _ _ _ us hl => match us, hl with | [_], _ => rfl) (fun cdv A outer s H vs Q E hr h => ?_)
  obtain ⟨a, rfl, c, ρ, p, m, D, on, rfl, ⟨A, h⟩, k⟩ := h
  obtain ⟨dn, ho⟩ := h.obj
  obtain ⟨hk8, ea, L, hk⟩ := h.kn
  have npk : p ≠ A.ak := ne_of ho hk.dict (by intro z; cases z)
  have hlen := hk.rep.len
  refine ⟨_, pss_one (ps_ret (pe_callB cr_sortedPO (by rfl) T.f_sorted (by decide +kernel) (pa_cons (pe_lock (pe_lc (own := [("slot", 1), ("entry", 2)]) (by rfl) sc_P_dirty_slots.nd (g := gTup K 2 (gCons (gName 1) (gCons (gName 2) (gNil)))) (pi_items (pe_fld (pv 0) rfl)) (blkOk_by (own := [("slot", 1), ("entry", 2)]) (N := ["self", "slot", "entry"]) (sc := defScope s_P_dirty_slots) (by decide +kernel)) (fun _ _ _ _ _ => pg_tup (n := 2) rfl (pgs_cons (pg_name (i := 1) sc_P_dirty_slots.nd rfl (.inl rfl) (.inr rfl)) (pgs_cons (pg_name (i := 2) sc_P_dirty_slots.nd rfl (.inl rfl) (.inr rfl)) pgs_nil))) (fun _ _ _ _ _ => pts_one (pt_val (pe_ix (r := rIxT K) ix_tup (pe_ix (r := rIxL K) ix_list (pv 2) (pe_int) (fun _ _ => rfl)) (pe_int) (fun _ _ => rfl)))) (fun _ _ _ _ _ => pe_tup (pa_cons (pe_ix (r := rIxT K) ix_tup (pe_ix (r := rIxL K) ix_list (pv 2) (pe_int) (fun _ _ => rfl)) (pe_int) (fun _ _ => rfl)) (pa_cons (pv 1) pa_nil))))) pa_nil))), ?_⟩
  refine ⟨A.ak, _, hk.dict, trivial, fun od => ?_⟩
  have hol := (upd_ne (o := .frz od (.dK (kvs ea L))) npk).trans ho
  refine ⟨_, rfl, p, _, A.dx, _, _, rfl, hol, T.cl_Pair, T.na_Pair_slots, rfl, A.ak, od, _, rfl, upd_same, fun D' hD => ?_⟩
  refine lc_gen (ρ := ρ) walk_items (by rw [kvs_len]; omega) cP (fun i => L[i]?.bind gDirt) (fun ρ' H' m => m.at0 upd_same) (fun i x ρ1 H1 H2 hi m1 y Ny Nn hNy hNn => ?_) hD fun ρ1 H1 ys m1 r0 hy ha => ?_
  · obtain ⟨U, x, y, rfl, hU, rfl, hx, hy⟩ := y
    obtain ⟨kv, hkv, rfl, rfl⟩ := item_at hx hy
    obtain ⟨s, e, hLi, rfl⟩ := kvs_at hkv
    refine pair_at ⟨rfl, ?_⟩
    have m2 : Mv S0 ρ1 H1 _ _ := Mv.refl.new hU 0 (.tup [.int (s : Int), .ref (ea s)])
    obtain ⟨hat, t, h1, h2⟩ := lk_ent hk hLi (m1.trans m2)
    refine ⟨_, rfl, ea s, _, _, _, rfl, rfl, SqL.of h1, rfl, t, _, _, _, rfl, rfl, SqT.of h2, rfl, _, rfl, ?_⟩
    cases hd : e.r.d with
    | true =>
      refine iteT ⟨_, rfl, ea s, _, _, _, rfl, rfl, SqL.of h1, rfl, t, _, _, _, rfl, rfl, SqT.of h2, rfl, _, rfl, (show (2 : Nat) ≤ sizeLine by decide), fun q hq => ?_⟩
      exact hNy _ _ _ (e.r.t, s) (by rw [hLi]; show gDirt (s, e) = _; unfold gDirt; rw [if_pos hd]) ⟨q, rfl, upd_same⟩ (m2.new hq 0 _)
    | false => exact iteF (hNn _ _ (by rw [hLi]; show gDirt (s, e) = _; unfold gDirt; rw [if_neg (by rw [hd]; decide)]) m2)
  · rw [kvs_len, fm_range] at ha
    obtain ⟨g1, g2⟩ := Mv.unlk hk.dict m1
    refine ⟨g1, ?_⟩
    have nD : D' ≠ A.ak := ne_of hy g1 (by intro z; cases z)
    have hy2 := (upd_ne (o := .dK (kvs ea L)) nD).trans hy
    have ha2 : All cP (upd H1 A.ak (.dK (kvs ea L))) (L.filterMap gDirt) ys := ha.mono fun b zs q => (upd_ne (ne_of q g1 (by intro z; cases z))).trans q
    refine sorted_pairs hy2 ha2 (dirt_perm hk.rep) fun q ys' hq hys => ?_
    have m3 := g2.new hq 0 (.lst ys')
    refine k _ _ q ys' m3 rs_same upd_same (hys.mono (Mv.refl (S := S0) (ρ := ρ).new hq 0 (.lst ys')).tups)
/-! ### the choice -/
def cT : Cell (List Int) := ⟨fun H xs v => ∃ t, v = .ref t ∧ H t = some (.tup (xs.map V.int)), fun k h => let ⟨t, e, q⟩ := h; ⟨t, e, k t _ q⟩⟩
theorem cT_ps {H : Hp} : ∀ {rows : List (List Int)} {ys : List V}, All cT H rows ys → ∃ ps : List (Addr × List Int), ps.map (·.2) = rows ∧ ps.map (fun p => V.ref p.1) = ys ∧ ∀ p ∈ ps, H p.1 = some (.tup (p.2.map V.int))
  | _, _, .nil => ⟨[], rfl, rfl, fun p h => by cases h⟩
  | _, _, .cons r t => by
    obtain ⟨ps, h1, h2, h3⟩ := cT_ps t
    obtain ⟨q, rfl, hq⟩ := r
    refine ⟨(q, _) :: ps, by rw [List.map_cons, h1], by rw [List.map_cons, h2], fun p hp => ?_⟩
    rcases List.mem_cons.mp hp with e | m
    · rw [e]; exact hq
    · exact h3 p m
/-- the last of the least row -/
theorem min_rows {K : PySem.W.Frag} {H : Hp} {a : Addr} {ys : List V} {c : Cho} {kn : Kn} {l : List Nat} {Q : VK} (hl : l ≠ []) (ha : H a = some (.lst ys)) (h : All cT H (l.map (rowAt c kn)) ys) (q : ∀ t, H t = some (.tup ((rowAt c kn (pick (rowAt c kn) l)).map V.int)) → Q (.ref t) H) : rMinT K [.ref a] H Q := by
  cases l with
  | nil => exact absurd rfl hl
  | cons s r =>
    obtain ⟨ps, h1, h2, h3⟩ := cT_ps h
    cases ps with
    | nil => cases h1
    | cons p ps =>
      rw [List.map_cons, List.map_cons] at h1
      obtain ⟨e1, e2⟩ := List.cons.inj h1
      refine ⟨a, p, ps, rfl, by rw [h2]; exact SqL.of ha, fun x hx => SqT.of (h3 x hx), fun x hx hmin => q _ ?_⟩
      have e3 : p.2 = rowAt c kn s := e1
      rw [e3, e2, least_pick] at hmin
      rw [← hmin]
      exact h3 x hx
theorem row_neg1 (c : Cho) (kn : Kn) (s : Nat) : atI ((rowAt c kn s).map V.int) (-1) = some (.int (s : Int)) := by
  unfold rowAt
  cases Kn.at kn s with
  | none => rfl
  | some e => cases c <;> rfl
def sp_chosen (K : PySem.W.Frag) : Sp := Sp2 fun a b H Q => ∃ (c : Cfg) (ρ : Ro) (p : Addr) (m : Mem) (D : Ds) (on : Bool) (l : Addr) (ls : List Nat), a = .ref p ∧ b = .ref l ∧ PairAt K c ρ H p m D on ∧ H l = some (.lst (natV ls)) ∧ ls ≠ [] ∧ ls.length ≤ 8 ∧ (∀ s ∈ ls, ∃ e, Kn.at m.kn s = some e) ∧
  ∀ ρ' H', Mv S0 ρ H ρ' H' → Q (.int (pick (rowAt c.cho m.kn) ls : Nat)) H'
theorem sc_P_chosen : FnScope ["self", "slots", "rows", "slot", "record", "came", "used", "uses"] ["self", "slots"] (defScope s_P_chosen) := ⟨rfl, rfl, rfl, by decide +kernel, rfl, by decide +kernel, by decide +kernel⟩
theorem m_P_chosen (T : Txt K mg) : C8.Met P w K mg base 3 (He.ga K "Pair") "chosen" (sp_chosen K) [] := by
  refine met_of T.F_P_chosen T.cl_Pair T.mt_Pair_chosen sc_P_chosen len2 (fun _ _ _ _ _ _ us hl => match us, hl with | [_, _], _ => rfl) (fun cdv A outer s H vs Q E hr h => ?_)
  obtain ⟨a, b, rfl, c, ρ, p, m, D, on, l, ls, rfl, rfl, ⟨A, h⟩, hl, hne, hl8, hall, k⟩ := h
  refine ⟨_, pss_cons (ps_set (i := 2) sc_P_chosen.nd rfl (.inl rfl) (pe_lst (pa_nil)))
      (pss_cons (ps_for PassesOwn.never rfl (pi_list (pv 1)) (pg_name (i := 3) sc_P_chosen.nd rfl (.inl rfl)) (pss_cons (ps_asg (pe_dget (hu_of hr) (pe_fld (pv 0) rfl) (pv 3) (fun _ _ => rfl)) (pg_unl (n := 4) rfl (pgs_cons (pg_name (i := 4) sc_P_chosen.nd rfl (.inl rfl)) (pgs_cons (pg_name (i := 5) sc_P_chosen.nd rfl (.inl rfl)) (pgs_cons (pg_name (i := 6) sc_P_chosen.nd rfl (.inl rfl)) (pgs_cons (pg_name (i := 7) sc_P_chosen.nd rfl (.inl rfl)) pgs_nil))))))
      (pss_one (ps_if (pt_cmpR op_eq (pe_pr (p_Rr_choice T) hr (by decide) (pe_fld (pv 0) rfl)) (C8.pe_gc rfl (gcs T.s_CAME)) (nomark _)) (pss_one (ps_expr (pe_bm PySem.F.plainAttrs_list PySem.F.slot_list_append PySem.F.type_list_append mt_append (pv 2) (pa_cons (pe_tup (pa_cons (pv 5) (pa_cons (pv 3) pa_nil))) pa_nil)))) (pss_one (ps_expr (pe_bm PySem.F.plainAttrs_list PySem.F.slot_list_append PySem.F.type_list_append mt_append (pv 2) (pa_cons (pe_ifExp (pt_cmpR op_eq (pe_pr (p_Rr_choice T) hr (by decide) (pe_fld (pv 0) rfl)) (C8.pe_gc rfl (gcs T.s_USED)) (nomark _)) (pe_tup (pa_cons (pv 6) (pa_cons (pv 3) pa_nil))) (pe_tup (pa_cons (pv 7) (pa_cons (pv 6) (pa_cons (pv 3) pa_nil))))) pa_nil))))))))
      (pss_one (ps_ret (pe_ix (r := rIxT K) ix_tup (pe_callB (cr_minT rfl hr.units) (by rfl) T.f_min (by decide +kernel) (pa_cons (pv 2) pa_nil)) (pe_un un_neg (pe_int)) (fun _ _ => rfl))))), ?_⟩
  refine ⟨(show (0 : Nat) ≤ sizeLine by decide), fun R hR => ?_⟩
  have m0 : Mv S0 ρ H _ _ := Mv.refl.new hR 0 (.lst [])
  refine ⟨_, rfl, l, rfl, ⟨_, SqL.of (m0.at0 hl)⟩, ?_⟩
  refine for_it (walk_list (xs := natV ls)) (fun i σ H' => ∃ x1 x2 x3 x4 x5 ρ' ys, σ = [some (.ref p), some (.ref l), some (.ref R), x1, x2, x3, x4, x5] ∧ Mv S0 ρ H ρ' H' ∧ H' R = some (.lst ys) ∧ ρ' R = 0 ∧ All cT H' ((ls.take i).map (rowAt c.cho m.kn)) ys)
    ⟨_, _, _, _, _, _, [], rfl, m0, upd_same, rs_same, .nil⟩ (fun i σ H' _ ⟨_, _, _, _, _, _, _, _, mm, _⟩ => SqL.of (mm.at0 hl)) (fun i x σ Hz H1 hi ⟨x1, x2, x3, x4, x5, ρ1, ys, e, m1, hy, r0, ha⟩ y => ?_) (fun σ H1 ⟨x1, x2, x3, x4, x5, ρ1, ys, e, m1, hy, r0, ha⟩ => ?_)
  · obtain ⟨rfl, hx⟩ := y
    subst e
    have hil : i < ls.length := by
      unfold natV at hi
      rw [List.length_map] at hi
      exact hi
    have hx2 : ls[i]? = some ls[i] := List.getElem?_eq_getElem hil
    have hxe : x = .int (ls[i] : Nat) := by
      unfold natV at hx
      rw [List.getElem?_map, hx2] at hx
      exact (Option.some.inj hx).symm
    subst hxe
    obtain ⟨e, he⟩ := hall ls[i] (List.getElem_mem hil)
    generalize hsi : ls[i] = s at he hx2
    have h1 := h.mv0 m1
    obtain ⟨dn, ho⟩ := h1.obj
    obtain ⟨hk8, ea, L, hk⟩ := h1.kn
    obtain ⟨dxr, tr, hr1, hr2, hr3⟩ := h1.rul
    obtain ⟨rr, t, he1, he2⟩ := hk.ent s e he
    have dg := hk.dget (s := s)
    rw [he] at dg
    have hlt : ys.length < sizeLine := by
      have q1 := ha.len
      rw [List.length_map, List.length_take] at q1
      unfold sizeLine
      omega
    have row : ∀ xs : List Int, rowAt c.cho m.kn s = xs → ∀ (q : Addr) (hq : H1 q = none), Mv S0 ρ H (rs ρ1 q 0) (upd (upd H1 q (.tup (xs.map V.int))) R (.lst (ys ++ [.ref q]))) ∧ upd (upd H1 q (.tup (xs.map V.int))) R (.lst (ys ++ [.ref q])) R = some (.lst (ys ++ [.ref q])) ∧ rs ρ1 q 0 R = 0 ∧ All cT (upd (upd H1 q (.tup (xs.map V.int))) R (.lst (ys ++ [.ref q]))) ((ls.take (i + 1)).map (rowAt c.cho m.kn)) (ys ++ [.ref q]) := fun xs hxs q hq => by
      have nR : R ≠ q := ne_of_none hy hq
      have m2 := m1.new hq 0 (.tup (xs.map V.int))
      have hy2 := (upd_ne (o := .tup (xs.map V.int)) nR).trans hy
      have m3 := m2.wr hy2 (fun xs z => by cases z) (.inl hR) (.lst (ys ++ [.ref q]))
      have k1 : ∀ b zs, H1 b = some (.tup zs) → upd (upd H1 q (.tup (xs.map V.int))) R (.lst (ys ++ [.ref q])) b = some (.tup zs) := fun b zs z => by
        rw [upd_ne (ne_of z hy (by intro z; cases z)), upd_ne (ne_of_none z hq)]
        exact z
      refine ⟨m3, upd_same, (rs_ne nR).trans r0, ?_⟩
      have e1 : (ls.take (i + 1)).map (rowAt c.cho m.kn) = (ls.take i).map (rowAt c.cho m.kn) ++ [xs] := by
        rw [List.take_succ, hx2, List.map_append, ← hxs]
        rfl
      rw [e1]
      exact All.snoc (c := cT) ⟨q, rfl, by rw [upd_ne (Ne.symm nR)]; exact upd_same⟩ (ha.mono k1)
    have r1 : rowAt c.cho m.kn s = Kb.row c.cho e s := by
      unfold rowAt
      rw [he]
    refine ⟨_, rfl, p, _, A.dx, _, _, rfl, ho, T.cl_Pair, T.na_Pair_slots, rfl, _, rfl, A.ak, _, rfl, dg, ea s, _, rfl, SqL.of he1, rfl, _, _, rfl, _, _, rfl, _, _, rfl, _, _, rfl, rfl, ?_⟩
    have nyq : ∀ (q : Addr) (o : HO), H1 q = none → upd H1 q o R = some (.lst ys) := fun q o hq => (upd_ne (ne_of_none hy hq)).trans hy
    refine ⟨_, rfl, p, _, A.dx, _, _, rfl, ho, T.cl_Pair, T.na_Pair_rule, rfl, A.ar, dxr, _, rfl, hr1, _, rfl, c, ρ1, A.ar, .str (choS c.cho), rfl, h1.rul, rfl, rfl, _, rfl, ?_⟩
    cases hcho : c.cho with
    | came =>
      refine ite_tt (by decide +kernel) ?_
      refine ⟨_, rfl, .inl ⟨rfl, _, SqL.of hy⟩, _, rfl, _, rfl, (show (2 : Nat) ≤ sizeLine by decide), fun q hq => ⟨_, _, _, rfl, rfl, nyq q _ hq, hlt, ?_⟩⟩
      obtain ⟨z1, z2, z3, z4⟩ := row [e.came, (s : Int)] (by rw [r1, hcho]; rfl) q hq
      exact ⟨_, _, _, _, _, _, _, rfl, z1, z2, z3, by rw [← hcho]; exact z4⟩
    | used =>
      refine ite_ff (by decide +kernel) ?_
      refine ⟨_, rfl, .inl ⟨rfl, _, SqL.of hy⟩, _, rfl, p, _, A.dx, _, _, rfl, ho, T.cl_Pair, T.na_Pair_rule, rfl, A.ar, dxr, _, rfl, hr1, _, rfl, c, ρ1, A.ar, .str (choS c.cho), rfl, h1.rul, rfl, rfl, _, rfl, ?_⟩
      refine ite_tt (by rw [hcho]; decide +kernel) ?_
      refine ⟨_, rfl, _, rfl, (show (2 : Nat) ≤ sizeLine by decide), fun q hq => ⟨_, _, _, rfl, rfl, nyq q _ hq, hlt, ?_⟩⟩
      obtain ⟨z1, z2, z3, z4⟩ := row [e.used, (s : Int)] (by rw [r1, hcho]; rfl) q hq
      exact ⟨_, _, _, _, _, _, _, rfl, z1, z2, z3, by rw [← hcho]; exact z4⟩
    | rare =>
      refine ite_ff (by decide +kernel) ?_
      refine ⟨_, rfl, .inl ⟨rfl, _, SqL.of hy⟩, _, rfl, p, _, A.dx, _, _, rfl, ho, T.cl_Pair, T.na_Pair_rule, rfl, A.ar, dxr, _, rfl, hr1, _, rfl, c, ρ1, A.ar, .str (choS c.cho), rfl, h1.rul, rfl, rfl, _, rfl, ?_⟩
      refine ite_ff (by rw [hcho]; decide +kernel) ?_
      refine ⟨_, rfl, _, rfl, _, rfl, (show (3 : Nat) ≤ sizeLine by decide), fun q hq => ⟨_, _, _, rfl, rfl, nyq q _ hq, hlt, ?_⟩⟩
      obtain ⟨z1, z2, z3, z4⟩ := row [e.uses, e.used, (s : Int)] (by rw [r1, hcho]; rfl) q hq
      exact ⟨_, _, _, _, _, _, _, rfl, z1, z2, z3, by rw [← hcho]; exact z4⟩
  · subst e
    have e2 : ls.take (natV ls).length = ls := by
      unfold natV
      rw [List.length_map, List.take_length]
    rw [e2] at ha
    refine ⟨_, rfl, ?_⟩
    dsimp only [tNil]
    refine min_rows hne hy ha fun t ht => ?_
    exact ⟨_, rfl, t, _, _, _, rfl, rfl, SqT.of ht, row_neg1 _ _ _, k _ _ m1⟩
end
end Kb
set_option Elab.async false
set_option linter.all false
set_option maxRecDepth 100000
set_option maxHeartbeats 4000000
namespace Kb
open PySem PySem.Spec PyProof.Rows L2
/-! ### room for steps -/
structure Rm (nb ns N : Nat) (D : Ds) : Prop where
  l1 : D.slow.sh.length = nb
  l2 : D.fast.sh.length = ns
  w1 : D.slow.wt.length + N ≤ 1000000
  w2 : D.fast.wt.length + N ≤ 1000000
theorem Rm.app {nb ns N : Nat} {D : Ds} (h : Rm nb ns (N + 1) D) (s : Stp) : Rm nb ns N (app D s) := by
  obtain ⟨l1, l2, w1, w2⟩ := h
  cases s with
  | slow b v => exact ⟨by show (D.slow.sh.set b v).length = nb; rw [List.length_set]; exact l1, l2, by show (D.slow.wt ++ [(b, v)]).length + N ≤ _; rw [List.length_append, List.length_singleton]; omega, by show D.fast.wt.length + N ≤ _; omega⟩
  | fast b v => exact ⟨l1, by show (D.fast.sh.set b v).length = ns; rw [List.length_set]; exact l2, by show D.slow.wt.length + N ≤ _; omega, by show (D.fast.wt ++ [(b, v)]).length + N ≤ _; rw [List.length_append, List.length_singleton]; omega⟩
  | sslow => exact ⟨l1, l2, by show ([] : List (Nat × Int)).length + N ≤ _; rw [List.length_nil]; omega, by show D.fast.wt.length + N ≤ _; omega⟩
  | sfast => exact ⟨l1, l2, by show D.slow.wt.length + N ≤ _; omega, by show ([] : List (Nat × Option Rec)).length + N ≤ _; rw [List.length_nil]; omega⟩
  | done => exact ⟨l1, l2, by show D.slow.wt.length + N ≤ _; omega, by show D.fast.wt.length + N ≤ _; omega⟩
  | rslow => exact ⟨l1, l2, by show D.slow.wt.length + N ≤ _; omega, by show D.fast.wt.length + N ≤ _; omega⟩
  | rfast => exact ⟨l1, l2, by show D.slow.wt.length + N ≤ _; omega, by show D.fast.wt.length + N ≤ _; omega⟩
theorem Rm.run {nb ns N : Nat} : ∀ {l : List Stp} {D : Ds}, Rm nb ns (N + l.length) D → Rm nb ns N (run l D)
  | [], _, h => h
  | s :: l, D, h => Rm.run (l := l) (D := Kb.app D s) (Rm.app (by rw [List.length_cons] at h; exact h) s)
theorem Rm.less {nb ns N M : Nat} {D : Ds} (h : Rm nb ns N D) (l : M ≤ N) : Rm nb ns M D := ⟨h.l1, h.l2, by have := h.w1; omega, by have := h.w2; omega⟩
theorem Rm.r {nb ns N M : Nat} {l : List Stp} {D : Ds} (h : Rm nb ns N D) (e : M + l.length ≤ N) : Rm nb ns M (Kb.run l D) := (h.less e).run
theorem clean_at {c : Cfg} {m : Mem} {s : Nat} {e : Ent} (h : Kn.at m.kn s = some e) : clean c m s = ({ m with kn := m.kn.set s (some { e with r := { e.r with d := false } }) }, c.cl.map (cleanStp s e.r)) := by
  unfold clean
  rw [h]
theorem take_map {α β : Type} {f : α → β} {l : List α} {i : Nat} {x : α} (h : l[i]? = some x) : (l.take (i + 1)).map f = (l.take i).map f ++ [f x] := by
  rw [List.take_succ, h, List.map_append]
  rfl
theorem run_snoc (l : List Stp) (s : Stp) (D : Ds) : run (l ++ [s]) D = app (run l D) s := by rw [run_app]; rfl
section
variable {P : Program} {w : World} {K : PySem.W.Frag} {mg : Str → Option Value} {base : Heap}
def sp_clean_slot (K : PySem.W.Frag) : Sp := Sp2 fun a b H Q => ∃ (c : Cfg) (ρ : Ro) (p : Addr) (m : Mem) (D : Ds) (on : Bool) (s : Nat) (e : Ent) (nb : Nat), a = .ref p ∧ b = .int (s : Int) ∧ PairAt K c ρ H p m D on ∧ OkC c ∧ Kn.at m.kn s = some e ∧ e.r.b < nb ∧ Rm nb m.kn.length 8 D ∧
  ∀ ρ' H', PairAt K c ρ' H' p (clean c m s).1 (run (clean c m s).2 D) on → Mv SP ρ H ρ' H' → Q .non H'
theorem sc_P_clean_slot : FnScope ["self", "slot", "block", "value", "turn", "is_dirty", "word"] ["self", "slot"] (defScope s_P_clean_slot) := ⟨rfl, rfl, rfl, by decide +kernel, rfl, by decide +kernel, by decide +kernel⟩
theorem m_P_clean_slot (T : Txt K mg) : C8.Met P w K mg base 6 (He.ga K "Pair") "clean_slot" (sp_clean_slot K) [] := by
  refine met_of T.F_P_clean_slot T.cl_Pair T.mt_Pair_clean_slot sc_P_clean_slot len2 (fun _ _ _ _ _ _ us hl => match us, hl with | [_, _], _ => rfl) (fun cdv A outer s H vs Q E hr h => ?_)
  obtain ⟨a, b, rfl, c, ρ, p, m, D, on, s, e, nb, rfl, rfl, ⟨A, h⟩, ok, he, hnb, rm, k⟩ := h
  rw [clean_at he] at k
  obtain ⟨dn, ho⟩ := h.obj
  obtain ⟨hk8, ea, L, hk⟩ := h.kn
  obtain ⟨dxo, to, vso, hr1, hr2, hr3, hr4⟩ := h.ord
  obtain ⟨rr, t, he1, he2⟩ := hk.ent s e he
  have dg := hk.dget (s := s)
  rw [he] at dg
  have hs := at_lt he
  refine ⟨_, pss_cons (ps_asg (pe_ix (r := rIxL K) ix_list (pe_dget (hu_of hr) (pe_fld (pv 0) rfl) (pv 1) (fun _ _ => rfl)) (pe_int) (fun _ _ => rfl)) (pg_tup (n := 4) rfl (pgs_cons (pg_name (i := 2) sc_P_clean_slot.nd rfl (.inl rfl)) (pgs_cons (pg_name (i := 3) sc_P_clean_slot.nd rfl (.inl rfl)) (pgs_cons (pg_name (i := 4) sc_P_clean_slot.nd rfl (.inl rfl)) (pgs_cons (pg_name (i := 5) sc_P_clean_slot.nd rfl (.inl rfl)) pgs_nil))))))
      (pss_cons (ps_for PassesOwn.never rfl (pi_tup (pe_pr (p_Rc_clean T) hr (by decide) (pe_fld (pv 0) rfl))) (pg_name (i := 6) sc_P_clean_slot.nd rfl (.inl rfl)) (pss_one (ps_if (pt_cmpR op_eq (pv 6) (C8.pe_gc rfl (gcs T.s_SLOW)) (nomark _)) (pss_one (ps_expr (C8.pe_mt (m_P_write_slow T) hr (by decide) (pv 0) (pa_cons (pv 2) (pa_cons (pv 3) pa_nil))))) (pss_one (ps_if (pt_cmpR op_eq (pv 6) (C8.pe_gc rfl (gcs T.s_SYNC_SLOW)) (nomark _)) (pss_one (ps_expr (C8.pe_mt0 (m_P_sync_slow T) hr (by decide) (pv 0)))) (pss_one (ps_if (pt_cmpR op_eq (pv 6) (C8.pe_gc rfl (gcs T.s_MARK)) (nomark _)) (pss_one (ps_expr (C8.pe_mt (m_P_write_fast T) hr (by decide) (pv 0) (pa_cons (pv 1) (pa_cons (pe_tup (pa_cons (pv 2) (pa_cons (pv 3) (pa_cons (pv 4) (pa_cons (pe_bl) pa_nil))))) pa_nil))))) (pss_one (ps_expr (C8.pe_mt0 (m_P_sync_fast T) hr (by decide) (pv 0)))))))))))
      (pss_one (ps_asg (pe_tup (pa_cons (pv 2) (pa_cons (pv 3) (pa_cons (pv 4) (pa_cons (pe_bl) pa_nil))))) (pg_sub (pe_dget (hu_of hr) (pe_fld (pv 0) rfl) (pv 1) (fun _ _ => rfl)) (pe_int) set_list)))), ?_⟩
  refine ⟨_, rfl, p, _, A.dx, _, _, rfl, ho, T.cl_Pair, T.na_Pair_slots, rfl, _, rfl, A.ak, _, rfl, dg, ea s, _, _, _, rfl, rfl, SqL.of he1, rfl, t, _, rfl, SqT.of he2, rfl, _, _, rfl, _, _, rfl, _, _, rfl, _, _, rfl, rfl, ?_⟩
  refine ⟨_, rfl, p, _, A.dx, _, _, rfl, ho, T.cl_Pair, T.na_Pair_order, rfl, A.ao, dxo, _, rfl, hr1, _, rfl, c, ρ, A.ao, rfl, h.ord, fun tc htc => ⟨tc, rfl, ⟨_, SqT.of htc⟩, ?_⟩⟩
  refine for_it (walk_tup (xs := wdV c.cl)) (fun i σ H' => ∃ x ρ', σ = [some (.ref p), some (.int (s : Int)), some (.int (e.r.b : Int)), some (.int e.r.v), some (.int e.r.t), some (.bl e.r.d), x] ∧ Mv SP ρ H ρ' H' ∧ PairAt K c ρ' H' p m (run ((c.cl.take i).map (cleanStp s e.r)) D) on)
    ⟨_, ρ, rfl, Mv.refl, ⟨A, h⟩⟩ (fun i σ H' _ ⟨_, _, _, mm, _⟩ => SqT.of (mm.tups _ _ htc)) (fun i x σ Hz H1 hi ⟨x0, ρ1, e0, m1, h1⟩ y => ?_) (fun σ H1 ⟨x0, ρ1, e0, m1, h1⟩ => ?_)
  · obtain ⟨rfl, hx⟩ := y
    subst e0
    obtain ⟨wd, hwd, rfl⟩ := wdV_at hx
    have hil := (List.getElem?_eq_some_iff.mp hwd).1
    have hok := ok.o4.ok wd (List.mem_of_getElem? hwd)
    have hl8 := ok.o4.len
    have rm1 : Rm nb m.kn.length 1 (run ((c.cl.take i).map (cleanStp s e.r)) D) := rm.r (by rw [List.length_map, List.length_take]; omega)
    generalize hD1 : run ((c.cl.take i).map (cleanStp s e.r)) D = D1 at h1 rm1
    have fin : run ((c.cl.take (i + 1)).map (cleanStp s e.r)) D = app D1 (cleanStp s e.r wd) := by rw [take_map hwd, run_snoc, hD1]
    obtain ⟨A1, g1⟩ := h1
    obtain ⟨dn1, ho1⟩ := g1.obj
    have w1 := rm1.w1
    have w2 := rm1.w2
    have l1 := rm1.l1
    have l2 := rm1.l2
    cases wd with
    | slow =>
      refine ⟨_, rfl, rfl, _, rfl, ite_tt (by decide +kernel) ?_⟩
      refine ⟨_, rfl, p, A1.dx, _, rfl, ho1, rfl, _, rfl, _, rfl, _, _, _, rfl, c, ρ1, p, m, D1, on, e.r.b, e.r.v, rfl, rfl, rfl, ⟨A1, g1⟩, by omega, by omega, fun ρ2 H2 g2 m2 => ⟨_, ρ2, rfl, m1.trans m2, ?_⟩⟩
      rw [fin]
      exact g2
    | sslow =>
      refine ⟨_, rfl, rfl, _, rfl, ite_ff (by decide +kernel) ⟨_, rfl, rfl, _, rfl, ite_tt (by decide +kernel) ?_⟩⟩
      refine ⟨_, rfl, p, A1.dx, _, rfl, ho1, rfl, _, rfl, c, ρ1, p, m, D1, on, rfl, ⟨A1, g1⟩, fun ρ2 H2 g2 m2 => ⟨_, ρ2, rfl, m1.trans m2, ?_⟩⟩
      rw [fin]
      exact g2
    | mark =>
      refine ⟨_, rfl, rfl, _, rfl, ite_ff (by decide +kernel) ⟨_, rfl, rfl, _, rfl, ite_ff (by decide +kernel) ⟨_, rfl, rfl, _, rfl, ite_tt (by decide +kernel) ?_⟩⟩⟩
      refine ⟨_, rfl, p, A1.dx, _, rfl, ho1, rfl, _, rfl, _, rfl, _, rfl, _, rfl, (show (4 : Nat) ≤ sizeLine by decide), fun q hq => ?_⟩
      have m2 : Mv S0 ρ1 H1 _ _ := Mv.refl.new hq 0 (.tup (recV { e.r with d := false }))
      refine ⟨_, _, _, rfl, c, _, p, m, D1, on, s, some { e.r with d := false }, rfl, rfl, ⟨q, rfl, upd_same⟩, ⟨A1, g1.mv0 m2⟩, by omega, by omega, by omega, fun ρ2 H2 g2 m3 => ⟨_, ρ2, rfl, m1.trans ((m2.mono s0_sp).trans m3), ?_⟩⟩
      rw [fin]
      exact g2
    | sfast =>
      refine ⟨_, rfl, rfl, _, rfl, ite_ff (by decide +kernel) ⟨_, rfl, rfl, _, rfl, ite_ff (by decide +kernel) ⟨_, rfl, rfl, _, rfl, ite_ff (by decide +kernel) ?_⟩⟩⟩
      refine ⟨_, rfl, p, A1.dx, _, rfl, ho1, rfl, _, rfl, c, ρ1, p, m, D1, on, rfl, ⟨A1, g1⟩, fun ρ2 H2 g2 m2 => ⟨_, ρ2, rfl, m1.trans m2, ?_⟩⟩
      rw [fin]
      exact g2
    | fast => exact absurd hok (by decide)
    | free => exact absurd hok (by decide)
    | done => exact absurd hok (by decide)
  · subst e0
    have e2 : c.cl.take (wdV c.cl).length = c.cl := by
      unfold wdV
      rw [List.length_map, List.take_length]
    rw [e2] at h1
    obtain ⟨A1, g1⟩ := h1
    refine ⟨_, rfl, _, rfl, _, rfl, (show (4 : Nat) ≤ sizeLine by decide), fun q hq => ?_⟩
    have m2 : Mv S0 ρ1 H1 _ _ := Mv.refl.new hq 0 (.tup (recV { e.r with d := false }))
    have g2 := g1.mv0 m2
    obtain ⟨dn2, ho2⟩ := g2.obj
    obtain ⟨_, ea2, L2, hk2⟩ := g2.kn
    obtain ⟨rr2, t2, he3, he4⟩ := hk2.ent s e he
    have dg2 := hk2.dget (s := s)
    rw [he] at dg2
    refine ⟨_, rfl, p, _, A1.dx, _, _, rfl, ho2, T.cl_Pair, T.na_Pair_slots, rfl, _, rfl, A1.ak, _, rfl, dg2, ea2 s, _, _, 0, rfl, rfl, he3, rfl, ?_⟩
    have hk3 := hk2.setE (e' := { e with r := { e.r with d := false } }) he upd_same
    have m3 := hk2.mvE hk8 he (.lst (entV q { e with r := { e.r with d := false } }))
    have g3 := g2.know' (kn := m.kn.set s (some { e with r := { e.r with d := false } })) set_len ⟨by rw [set_len]; exact hk8, _, _, hk3⟩ m3
    exact k _ _ ⟨A1, g3⟩ ((m1.trans (m2.mono s0_sp)).trans (m3.mono sk_sp))
end
end Kb
set_option Elab.async false
set_option linter.all false
set_option maxRecDepth 100000
set_option maxHeartbeats 4000000
namespace Kb
open PySem PySem.Spec PyProof.Rows L2
theorem filter_first : ∀ (n : Nat) (f : Nat → Bool) (i : Nat), i < n → f i = true → (∀ j, j < i → f j = false) → ∃ r, (List.range n).filter f = i :: r
  | 0, _, _, h, _, _ => absurd h (Nat.not_lt_zero _)
  | n + 1, f, i, h, hi, hn => by
    rw [List.range_succ, List.filter_append]
    by_cases q : i < n
    · obtain ⟨r, e⟩ := filter_first n f i q hi hn
      exact ⟨r ++ [n].filter f, by rw [e]; rfl⟩
    · have e : i = n := by omega
      subst e
      have e1 : (List.range i).filter f = [] := List.filter_eq_nil_iff.mpr fun x hx z => by rw [hn x (List.mem_range.mp hx)] at z; cases z
      exact ⟨[], by rw [e1, List.filter_cons_of_pos hi]; rfl⟩
theorem frees_cons {kn : Kn} {i : Nat} (h : i < kn.length) (hi : Kn.at kn i = none) (hn : ∀ j, j < i → ∃ e, Kn.at kn j = some e) : ∃ r, frees kn = i :: r :=
  filter_first kn.length _ i h (by show (Kn.at kn i).isNone = true; rw [hi]; rfl) fun j hj => by
    obtain ⟨e, he⟩ := hn j hj
    show (Kn.at kn j).isNone = false
    rw [he]
    rfl
theorem frees_nil {kn : Kn} (hn : ∀ j, j < kn.length → ∃ e, Kn.at kn j = some e) : frees kn = [] :=
  List.filter_eq_nil_iff.mpr fun x hx z => by
    obtain ⟨e, he⟩ := hn x (List.mem_range.mp hx)
    rw [he] at z
    cases z
theorem take_free {c : Cfg} {m : Mem} {i : Nat} {r : List Nat} (h : frees m.kn = i :: r) : take c m = (i, m, []) := by
  unfold take
  rw [h]
theorem take_clear {c : Cfg} {m : Mem} {s : Nat} {r : List Nat} (h : frees m.kn = []) (h2 : clears m.kn = s :: r) : take c m = (pick (rowAt c.cho m.kn) (clears m.kn), drop m (pick (rowAt c.cho m.kn) (clears m.kn)), []) := by
  unfold take
  rw [h, h2]
theorem take_dirty {c : Cfg} {m : Mem} {q : Int × Nat} {r : List (Int × Nat)} (h : frees m.kn = []) (h2 : clears m.kn = []) (h3 : oldest m.kn = q :: r) : take c m = (q.2, drop (clean c m q.2).1 q.2, (clean c m q.2).2) := by
  unfold take
  rw [h, h2, h3]
theorem clears_in {kn : Kn} {s : Nat} (h : s ∈ clears kn) : ∃ e, Kn.at kn s = some e ∧ e.r.d = false := by
  obtain ⟨h1, h2⟩ := List.mem_filter.mp h
  cases q : Kn.at kn s with
  | none => rw [q] at h2; cases h2
  | some e =>
    rw [q] at h2
    exact ⟨e, rfl, by simpa using h2⟩
theorem clears_not {kn : Kn} {s : Nat} {e : Ent} (h : clears kn = []) (he : Kn.at kn s = some e) : e.r.d = true := by
  cases d : e.r.d with
  | true => rfl
  | false =>
    have z : s ∈ clears kn := List.mem_filter.mpr ⟨List.mem_range.mpr (at_lt he), by rw [he]; simp [d]⟩
    rw [h] at z
    cases z
theorem dirt_in {kn : Kn} {q : Int × Nat} (h : q ∈ dirt kn) : ∃ e, Kn.at kn q.2 = some e ∧ e.r.d = true ∧ e.r.t = q.1 := by
  rw [dirt_canon] at h
  obtain ⟨x, hx, hg⟩ := List.mem_filterMap.mp h
  unfold gDirt at hg
  by_cases d : x.2.r.d = true
  · rw [if_pos d] at hg
    cases hg
    exact ⟨x.2, canon_mem.mp hx, d, rfl⟩
  · rw [if_neg d] at hg
    cases hg
theorem oldest_in {kn : Kn} {q : Int × Nat} (h : q ∈ oldest kn) : ∃ e, Kn.at kn q.2 = some e ∧ e.r.d = true ∧ e.r.t = q.1 := dirt_in ((srt_perm _).mem_iff.mp h)
theorem dirt_mem {kn : Kn} {s : Nat} {e : Ent} (he : Kn.at kn s = some e) (d : e.r.d = true) : (e.r.t, s) ∈ oldest kn := by
  refine (srt_perm _).mem_iff.mpr ?_
  rw [dirt_canon]
  exact List.mem_filterMap.mpr ⟨(s, e), canon_mem.mpr he, by show (if e.r.d = true then some (e.r.t, s) else none) = _; rw [if_pos d]⟩
theorem oldest_ne {kn : Kn} (h : clears kn = []) (hn : ∀ j, j < kn.length → ∃ e, Kn.at kn j = some e) (h1 : 1 ≤ kn.length) : ∃ q r, oldest kn = q :: r := by
  obtain ⟨e, he⟩ := hn 0 h1
  have z := dirt_mem he (clears_not h he)
  cases q : oldest kn with
  | nil => rw [q] at z; cases z
  | cons a r => exact ⟨a, r, rfl⟩
section
variable {P : Program} {w : World} {K : PySem.W.Frag} {mg : Str → Option Value} {base : Heap}
def sp_take (K : PySem.W.Frag) : Sp := Sp1 fun a H Q => ∃ (c : Cfg) (ρ : Ro) (p : Addr) (m : Mem) (D : Ds) (on : Bool) (nb : Nat), a = .ref p ∧ PairAt K c ρ H p m D on ∧ OkC c ∧ 1 ≤ m.kn.length ∧ (∀ s e, Kn.at m.kn s = some e → e.r.b < nb) ∧ Rm nb m.kn.length 8 D ∧
  ∀ ρ' H', PairAt K c ρ' H' p (take c m).2.1 (run (take c m).2.2 D) on → Mv SP ρ H ρ' H' → Q (.int ((take c m).1 : Nat)) H'
theorem sc_P_take : FnScope ["self", "slot", "clean", "entry"] ["self"] (defScope s_P_take) := ⟨rfl, rfl, rfl, by decide +kernel, rfl, by decide +kernel, by decide +kernel⟩
theorem m_P_take (T : Txt K mg) : C8.Met P w K mg base 7 (He.ga K "Pair") "take" (sp_take K) [] := by
  refine met_of T.F_P_take T.cl_Pair T.mt_Pair_take sc_P_take len1 (fun _ _ _ _ _ _ us hl => match us, hl with | [_], _ => rfl) (fun cdv A outer s H vs Q E hr h => ?_)
  obtain ⟨a, rfl, c, ρ, p, m, D, on, nb, rfl, ⟨A, h⟩, ok, h1, hbn, rm, k⟩ := h
  obtain ⟨dn, ho⟩ := h.obj
  obtain ⟨dx, Lf, hd, rd, hfk⟩ := h.fast
  obtain ⟨vs, hv1, q1⟩ := hfk.sh
  obtain ⟨hk8, ea, L, hk⟩ := h.kn
  have npk : p ≠ A.ak := ne_of ho hk.dict (by intro z; cases z)
  have hlen := hk.rep.len
  have hl : m.kn.length = vs.length := rm.l2.symm.trans q1.len
  refine ⟨_, pss_cons (ps_for PassesOwn.never rfl (pi_range1 rfl T.f_range (pa_cons (pe_callB call_len_seq (by rfl) T.f_len (by decide +kernel) (pa_cons (pe_fld (pe_fld (pv 0) rfl) rfl) pa_nil)) pa_nil)) (pg_name (i := 1) sc_P_take.nd rfl (.inl rfl)) (pss_one (ps_if (pt_cmp (pc_dnotin (hu_of hr) (pv 1) (pe_fld (pv 0) rfl))) (pss_one (ps_ret (pv 1))) (pss_nil))))
      (pss_cons (ps_lock (ps_setLc (i := 2) (own := [("slot", 1), ("entry", 3)]) (by rfl) sc_P_take.nd rfl rfl (sw_true rfl rfl rfl (by decide +kernel)) (g := gTup K 2 (gCons (gName 1) (gCons (gName 3) (gNil)))) (pi_items (pe_fld (pv 0) rfl)) (blkOk_by (own := [("slot", 1), ("entry", 3)]) (N := ["self", "slot", "clean", "entry"]) (sc := defScope s_P_take) (by decide +kernel)) (fun _ _ _ _ _ => pg_tup (n := 2) rfl (pgs_cons (pg_name (i := 1) sc_P_take.nd rfl (.inl rfl) (.inr rfl)) (pgs_cons (pg_name (i := 3) sc_P_take.nd rfl (.inl rfl) (.inr rfl)) pgs_nil))) (fun _ _ _ _ _ => pts_one (pt_not (pt_val (pe_ix (r := rIxT K) ix_tup (pe_ix (r := rIxL K) ix_list (pv 3) (pe_int) (fun _ _ => rfl)) (pe_int) (fun _ _ => rfl))))) (fun _ _ _ _ _ => pv 1)))
      (pss_cons (ps_if (pt_cmpR (op_eqD hr.units) (pv 2) (pe_lst (pa_nil)) (nomark _)) (pss_cons (ps_set (i := 2) sc_P_take.nd rfl (.inl rfl) (pe_lst (pa_cons (pe_ix (r := rIxT K) ix_tup (pe_ix (r := rIxL K) ix_list (C8.pe_mt0 (m_P_dirty_slots T) hr (by decide) (pv 0)) (pe_int) (fun _ _ => rfl)) (pe_int) (fun _ _ => rfl)) pa_nil)))
      (pss_one (ps_expr (C8.pe_mt (m_P_clean_slot T) hr (by decide) (pv 0) (pa_cons (pe_ix (r := rIxL K) ix_list (pv 2) (pe_int) (fun _ _ => rfl)) pa_nil))))) (pss_nil))
      (pss_cons (ps_set (i := 1) sc_P_take.nd rfl (.inl rfl) (C8.pe_mt (m_P_chosen T) hr (by decide) (pv 0) (pa_cons (pv 2) pa_nil)))
      (pss_cons (ps_expr (pe_dpop1 (pe_fld (pv 0) rfl) (pv 1) ⟨rfl, rfl, rfl, rfl⟩))
      (pss_one (ps_ret (pv 1))))))), ?_⟩
  refine ⟨_, rfl, p, _, A.dx, _, _, rfl, ho, T.cl_Pair, T.na_Pair_fast, rfl, A.df, _, dx, _, _, rfl, hd, T.cl_Disk, T.na_Disk_shown, rfl, _, _, rfl, .inl (SqL.of hv1), _, rfl, by omega, by omega, ?_⟩
  refine for_it (walk_range0 (n := vs.length)) (fun i σ H' => ∃ x y z, σ = [some (.ref p), x, y, z] ∧ H' = H ∧ ∀ j, j < i → ∃ e, Kn.at m.kn j = some e) ⟨_, _, _, rfl, rfl, fun j hj => absurd hj (Nat.not_lt_zero _)⟩ (fun i σ H' _ _ => trivial) (fun i x σ Hz H1 hi ⟨x0, y0, z0, e0, e1, hno⟩ y => ?_) (fun σ H1 ⟨x0, y0, z0, e0, e1, hno⟩ => ?_)
  · obtain ⟨rfl, rfl⟩ := y
    subst e0
    subst e1
    have dg := hk.dget (s := i)
    refine ⟨_, rfl, _, rfl, p, _, A.dx, _, _, rfl, ho, T.cl_Pair, T.na_Pair_slots, rfl, A.ak, _, rfl, dg, _, rfl, ?_⟩
    cases he : Kn.at m.kn i with
    | none =>
      refine iteT ⟨_, rfl, ?_⟩
      obtain ⟨r, hf⟩ := frees_cons (show i < m.kn.length by omega) he hno
      rw [take_free hf] at k
      exact k _ _ ⟨A, h⟩ Mv.refl
    | some e =>
      refine iteF ⟨_, _, _, rfl, rfl, fun j hj => ?_⟩
      by_cases z : j = i
      · exact ⟨e, by rw [z]; exact he⟩
      · exact hno j (by omega)
  · subst e0
    subst e1
    have hno' : ∀ j, j < m.kn.length → ∃ e, Kn.at m.kn j = some e := fun j hj => hno j (by omega)
    have hfr := frees_nil hno'
    refine ⟨A.ak, _, hk.dict, trivial, fun od => ?_⟩
    have hol := (upd_ne (o := .frz od (.dK (kvs ea L))) npk).trans ho
    refine ⟨_, rfl, p, _, A.dx, _, _, rfl, hol, T.cl_Pair, T.na_Pair_slots, rfl, A.ak, od, _, rfl, upd_same, fun D' hD => ?_⟩
    refine lc_gen (ρ := ρ) walk_items (by rw [kvs_len]; omega) cN (fun i => L[i]?.bind gClear) (fun ρ' H' m => m.at0 upd_same) (fun i x ρ1 H2 H3 hi m1 y Ny Nn hNy hNn => ?_) hD fun ρ1 H2 ys m1 r0 hy ha => ?_
    · obtain ⟨U, x, y, rfl, hU, rfl, hx, hy⟩ := y
      obtain ⟨kv, hkv, rfl, rfl⟩ := item_at hx hy
      obtain ⟨s, e, hLi, rfl⟩ := kvs_at hkv
      refine pair_at ⟨rfl, ?_⟩
      have m2 : Mv S0 ρ1 H2 _ _ := Mv.refl.new hU 0 (.tup [.int (s : Int), .ref (ea s)])
      obtain ⟨hat, t, h1, h2⟩ := lk_ent hk hLi (m1.trans m2)
      refine ⟨_, rfl, ea s, _, _, _, rfl, rfl, SqL.of h1, rfl, t, _, _, _, rfl, rfl, SqT.of h2, rfl, _, rfl, ?_⟩
      cases hd : e.r.d with
      | true => exact iteF (hNn _ _ (by rw [hLi]; show gClear (s, e) = _; unfold gClear; rw [if_neg (by rw [hd]; decide)]) m2)
      | false => exact iteT ⟨_, rfl, hNy _ _ _ s (by rw [hLi]; show gClear (s, e) = _; unfold gClear; rw [if_pos (by rw [hd]; rfl)]) rfl m2⟩
    rw [kvs_len, fm_range] at ha
    obtain ⟨g1, g2⟩ := Mv.unlk hk.dict m1
    refine ⟨g1, ?_⟩
    have nD : D' ≠ A.ak := ne_of hy g1 (by intro z; cases z)
    have hy2 := (upd_ne (o := .dK (kvs ea L)) nD).trans hy
    rw [nats_of ha] at hy2
    have hpm := clears_perm hk.rep
    generalize upd H2 A.ak (.dK (kvs ea L)) = H4 at g2 hy2 ⊢
    have h4 := h.mv0 g2
    obtain ⟨dn4, ho4⟩ := h4.obj
    refine ⟨_, rfl, (show (0 : Nat) ≤ sizeLine by decide), fun b hb => ?_⟩
    have m4 := g2.new hb 0 (.lst [])
    have h5 := h4.mv0 (Mv.refl.new hb 0 (.lst []))
    obtain ⟨dn5, ho5⟩ := h5.obj
    have hy3 := (upd_ne (o := .lst []) (ne_of_none hy2 hb)).trans hy2
    rw [natV_eq] at hy3
    generalize rs ρ1 b 0 = ρ4 at m4 h5
    refine eq_nil hy3 upd_same ⟨_, rfl, ?_⟩
    rw [← natV_eq] at hy3
    generalize upd H4 b (.lst []) = HX at m4 h5 ho5 hy3 ⊢
    generalize hcl : L.filterMap gClear = cl at hpm hy3 ⊢
    cases cl with
    | nil =>
      have hclr : clears m.kn = [] := List.nil_perm.mp hpm
      obtain ⟨q, r, hold⟩ := oldest_ne hclr hno' h1
      obtain ⟨e, he, hde, hte⟩ := oldest_in (kn := m.kn) (q := q) (by rw [hold]; exact List.mem_cons_self)
      refine iteT ⟨_, rfl, p, A.dx, _, rfl, ho5, rfl, _, rfl, c, ρ4, p, m, D, on, rfl, ⟨A, h5⟩, fun ρ6 H6 qa ys6 m6 r6 hq6 ha6 => ?_⟩
      rw [hold] at ha6
      cases ha6 with
      | cons hr6 ht6 =>
      obtain ⟨tt, rfl, htt⟩ := hr6
      refine ⟨qa, _, _, _, rfl, rfl, SqL.of hq6, atI_nat (j := 0) rfl, tt, _, _, _, rfl, rfl, SqT.of htt, rfl, (show (1 : Nat) ≤ sizeLine by decide), fun b2 hb2 => ?_⟩
      have m7 := m6.new hb2 0 (.lst [.int (q.2 : Int)])
      have h7 := h5.mv0 m7
      obtain ⟨dn7, ho7⟩ := h7.obj
      refine ⟨_, rfl, p, A.dx, _, rfl, ho7, rfl, _, rfl, b2, _, _, _, rfl, rfl, SqL.of upd_same, rfl, ?_⟩
      refine ⟨_, _, rfl, c, _, p, m, D, on, q.2, e, nb, rfl, rfl, ⟨A, h7⟩, ok, he, hbn _ _ he, rm, fun ρX HX2 gX0 mX1 => ?_⟩
      obtain ⟨AX, gX⟩ := gX0
      obtain ⟨dnX, hoX⟩ := gX.obj
      have hl0 : upd H6 b2 (.lst [.int (q.2 : Int)]) b2 = some (.lst (natV [q.2])) := upd_same
      have r0b : rs ρ6 b2 0 b2 = 0 := rs_same
      have hlX := mX1.keeps hl0 r0b sp0
      have mX0 := ((m4.mono s0_sp).trans (m7.mono s0_sp)).trans mX1
      rw [take_dirty hfr hclr hold] at k
      have hallX : ∀ s ∈ [q.2], ∃ e, Kn.at (clean c m q.2).1.kn s = some e := fun s hs => by
        rw [List.mem_singleton.mp hs, clean_at he]
        exact ⟨_, by rw [at_set (at_lt he), if_pos rfl]⟩
      have hneX : [q.2] ≠ [] := by simp
      have hl8X : [q.2].length ≤ 8 := by simp
      generalize hlsX : [q.2] = lsX at hlX hallX hneX hl8X
      generalize hmX : (clean c m q.2).1 = mX at gX hallX k
      generalize hDX : run (clean c m q.2).2 D = DX at gX k
      generalize b2 = lX at hlX ⊢
      refine ⟨_, rfl, p, AX.dx, _, rfl, hoX, rfl, _, rfl, _, _, rfl, c, ρX, p, mX, DX, on, lX, lsX, rfl, rfl, ⟨AX, gX⟩, hlX, hneX, hl8X, hallX, fun ρ5 H5 m5 => ?_⟩
      have g5 := gX.mv0 m5
      obtain ⟨dn5, ho5⟩ := g5.obj
      obtain ⟨hk85, ea5, L5, hk5⟩ := g5.kn
      have hmem5 : pick (rowAt c.cho mX.kn) lsX ∈ lsX := by
        cases hls : lsX with
        | nil => exact absurd hls hneX
        | cons z r => exact (pick_min z r).1
      obtain ⟨e5, he5⟩ := hallX _ hmem5
      have hv5 := hk5.val (s := pick (rowAt c.cho mX.kn) lsX)
      rw [he5] at hv5
      refine ⟨_, rfl, p, _, AX.dx, _, _, rfl, ho5, T.cl_Pair, T.na_Pair_slots, rfl, AX.ak, rfl, .inl ⟨_, .inl hk5.dict⟩, _, rfl, _, Sum.inl (pick (rowAt c.cho mX.kn) lsX : Int), _, hk5.dict, rfl, hv5, ?_⟩
      have hk6 := hk5.del (at_lt he5)
      have m6 := hk5.mvK (.dK (dropK (kvs ea5 L5) (Sum.inl (pick (rowAt c.cho mX.kn) lsX : Int))))
      have g6 := g5.know' (kn := mX.kn.set (pick (rowAt c.cho mX.kn) lsX) none) set_len ⟨by rw [set_len]; exact hk85, _, _, hk6⟩ m6
      refine ⟨_, rfl, ?_⟩
      have mF := (mX0.trans (m5.mono s0_sp)).trans (m6.mono sk_sp)
      have eP : pick (rowAt c.cho mX.kn) lsX = q.2 := by rw [← hlsX]; rfl
      rw [eP] at g6 mF ⊢
      exact k _ _ ⟨AX, g6⟩ mF
    | cons s0 r0' =>
      refine iteF ?_
      have hcE : ∃ s1 r1, clears m.kn = s1 :: r1 := by
        cases hz : clears m.kn with
        | nil => rw [hz] at hpm; exact absurd (List.perm_nil.mp hpm) (by simp)
        | cons a r => exact ⟨a, r, rfl⟩
      obtain ⟨s1, r1, hc1⟩ := hcE
      rw [take_clear hfr hc1] at k
      have hallX : ∀ s ∈ s0 :: r0', ∃ e, Kn.at m.kn s = some e := fun s hs => let ⟨e, he, _⟩ := clears_in (hpm.mem_iff.mp hs); ⟨e, he⟩
      have hneX : s0 :: r0' ≠ [] := by simp
      have hl8X : (s0 :: r0').length ≤ 8 := by
        have z := filterMap_len gClear L
        rw [hcl] at z
        omega
      have eP : pick (rowAt c.cho m.kn) (s0 :: r0') = pick (rowAt c.cho m.kn) (clears m.kn) := pick_perm hpm fun a _ b _ => rowAt_inj
      rw [← eP] at k
      have gX := h5
      have hoX := ho5
      have hlX := hy3
      have mX0 := m4.mono (S' := SP) s0_sp
      generalize s0 :: r0' = lsX at hlX hallX hneX hl8X k
      generalize D' = lX at hlX ⊢
      refine ⟨_, rfl, p, A.dx, _, rfl, hoX, rfl, _, rfl, _, _, rfl, c, ρ4, p, m, D, on, lX, lsX, rfl, rfl, ⟨A, gX⟩, hlX, hneX, hl8X, hallX, fun ρ5 H5 m5 => ?_⟩
      have g5 := gX.mv0 m5
      obtain ⟨dn5, ho5⟩ := g5.obj
      obtain ⟨hk85, ea5, L5, hk5⟩ := g5.kn
      have hmem5 : pick (rowAt c.cho m.kn) lsX ∈ lsX := by
        cases hls : lsX with
        | nil => exact absurd hls hneX
        | cons z r => exact (pick_min z r).1
      obtain ⟨e5, he5⟩ := hallX _ hmem5
      have hv5 := hk5.val (s := pick (rowAt c.cho m.kn) lsX)
      rw [he5] at hv5
      refine ⟨_, rfl, p, _, A.dx, _, _, rfl, ho5, T.cl_Pair, T.na_Pair_slots, rfl, A.ak, rfl, .inl ⟨_, .inl hk5.dict⟩, _, rfl, _, Sum.inl (pick (rowAt c.cho m.kn) lsX : Int), _, hk5.dict, rfl, hv5, ?_⟩
      have hk6 := hk5.del (at_lt he5)
      have m6 := hk5.mvK (.dK (dropK (kvs ea5 L5) (Sum.inl (pick (rowAt c.cho m.kn) lsX : Int))))
      have g6 := g5.know' (kn := m.kn.set (pick (rowAt c.cho m.kn) lsX) none) set_len ⟨by rw [set_len]; exact hk85, _, _, hk6⟩ m6
      refine ⟨_, rfl, ?_⟩
      have mF := (mX0.trans (m5.mono s0_sp)).trans (m6.mono sk_sp)
      exact k _ _ ⟨A, g6⟩ mF
end
end Kb
set_option Elab.async false
set_option linter.all false
set_option maxRecDepth 100000
set_option maxHeartbeats 4000000
namespace Kb
open PySem PySem.Spec PyProof.Rows L2
theorem oV_eq (a b : Option Nat) : decide (oV a = oV b) = decide (a = b) := by
  refine decide_eq_decide.mpr ⟨fun h => ?_, fun h => by rw [h]⟩
  cases a with
  | none => cases b with
    | none => rfl
    | some y => cases h
  | some x => cases b with
    | none => cases h
    | some y =>
      injection h with h
      rw [Int.ofNat.inj h]
theorem oV_ne (a b : Option Nat) (h : a ≠ b) : (!decide (oV a = oV b)) = true := by rw [oV_eq, decide_eq_false h]; rfl
theorem oV_eqT (a b : Option Nat) (h : a = b) : (!decide (oV a = oV b)) = false := by rw [oV_eq, decide_eq_true h]; rfl
theorem oV_scal (a b : Option Nat) : scal (oV a) (oV b) = true := by cases a <;> cases b <;> rfl
theorem nn_some (s : Nat) : (!decide (oV (some s) = V.non)) = true := by simp [oV]
theorem nn_none : (!decide (oV none = V.non)) = false := by simp [oV]
theorem drop_none {m : Mem} {o : Nat} (h : Kn.at m.kn o = none) : drop m o = m := by
  unfold drop
  rw [set_none h]
/-- what stands after a pop of the known dict of the pair -/
theorem pop_ok {K : PySem.W.Frag} {c : Cfg} {ρ : Ro} {H : Hp} {p : Addr} {A : PA} {m : Mem} {D : Ds} {on : Bool} (g : PairS K c ρ H p A m D on) (o : Nat) : ∃ kvs, H A.ak = some (.dK kvs) ∧
    (∀ v, valV kvs (Sum.inl (o : Int)) = some v → PairS K c ρ (upd H A.ak (.dK (dropK kvs (Sum.inl (o : Int))))) p A (drop m o) D on ∧ Mv SP ρ H ρ (upd H A.ak (.dK (dropK kvs (Sum.inl (o : Int)))))) ∧ (valV kvs (Sum.inl (o : Int)) = none → drop m o = m) := by
  obtain ⟨hk8, ea, L, hk⟩ := g.kn
  refine ⟨_, hk.dict, fun v hv => ?_, fun hn => ?_⟩
  · rw [hk.val] at hv
    cases he : Kn.at m.kn o with
    | none => rw [he] at hv; cases hv
    | some e =>
      have hk6 := hk.del (at_lt he)
      have m6 := hk.mvK (.dK (dropK (kvs ea L) (Sum.inl (o : Int))))
      exact ⟨g.know' (kn := m.kn.set o none) set_len ⟨by rw [set_len]; exact hk8, _, _, hk6⟩ m6, m6.mono sk_sp⟩
  · rw [hk.val] at hn
    cases he : Kn.at m.kn o with
    | none => exact drop_none he
    | some e => rw [he] at hn; cases hn
theorem word_fast {m : Mem} {y : Way} {r : Rec} {own : Option Nat} {t : Nat} (h : y ≠ .arou) : word .fast m y r own (some t) = (if own = some t then know m t r else dropO (know m t r) own, [.fast t (some r)]) := by
  show (if y = .arou then (m, []) else _) = _
  rw [if_neg h]
theorem word_fastA {m : Mem} {r : Rec} {own : Option Nat} {t : Option Nat} : word .fast m .arou r own t = (m, []) := by
  cases t with
  | none => rfl
  | some t =>
    show (if Way.arou = Way.arou then (m, []) else (if own = some t then know m t r else dropO (know m t r) own, [.fast t (some r)])) = (m, [])
    rw [if_pos rfl]
theorem word_free {m : Mem} {y : Way} {r : Rec} {o : Nat} {t : Option Nat} (h : ¬ (y = .thr ∨ (y = .back ∧ some o = t))) : word .free m y r (some o) t = (drop m o, [.fast o none]) := if_neg h
theorem word_freeN {m : Mem} {y : Way} {r : Rec} {o : Nat} {t : Option Nat} (h : y = .thr ∨ (y = .back ∧ some o = t)) : word .free m y r (some o) t = (m, []) := if_pos h
section
variable {P : Program} {w : World} {K : PySem.W.Frag} {mg : Str → Option Value} {base : Heap}
def sp_carry_out (K : PySem.W.Frag) : Sp := Sp6 fun a b d e f g H Q => ∃ (c : Cfg) (ρ : Ro) (p : Addr) (m : Mem) (D : Ds) (on : Bool) (nb : Nat) (wd : Wd) (y : Way) (rc : Rec) (own tk : Option Nat), a = .ref p ∧ b = .str (wdS wd) ∧ d = .str (wayS y) ∧ RecAt H rc e ∧ f = oV own ∧ g = oV tk ∧ PairAt K c ρ H p m D on ∧
  wd ≠ .mark ∧ rc.b < nb ∧ (∀ s, own = some s → s < m.kn.length) ∧ (∀ s, tk = some s → s < m.kn.length) ∧ Rm nb m.kn.length 1 D ∧
  ∀ ρ' H', PairAt K c ρ' H' p (word wd m y rc own tk).1 (run (word wd m y rc own tk).2 D) on → Mv SP ρ H ρ' H' → Q .non H'
theorem sc_P_carry_out : FnScope ["self", "word", "way", "record", "own", "taken"] ["self", "word", "way", "record", "own", "taken"] (defScope s_P_carry_out) := ⟨rfl, rfl, rfl, by decide +kernel, rfl, by decide +kernel, by decide +kernel⟩
theorem m_P_carry_out (T : Txt K mg) : C8.Met P w K mg base 7 (He.ga K "Pair") "carry_out" (sp_carry_out K) [] := by
  refine met_of T.F_P_carry_out T.cl_Pair T.mt_Pair_carry_out sc_P_carry_out len6 (fun _ _ _ _ _ _ us hl => match us, hl with | [_, _, _, _, _, _], _ => rfl) (fun cdv A outer s H vs Q E hr h => ?_)
  obtain ⟨a, b, d, ev, f, g, rfl, c, ρ, p, m, D, on, nb, wd, y, rc, own, tk, rfl, rfl, rfl, ⟨tr, rfl, htr⟩, rfl, rfl, ⟨A, h⟩, nmk, hb, ho1, ht1, rm, k⟩ := h
  obtain ⟨dn, ho⟩ := h.obj
  have w1 := rm.w1
  have w2 := rm.w2
  have l1 := rm.l1
  have l2 := rm.l2
  refine ⟨_, pss_one (ps_if (pt_cmpR op_eq (pv 1) (C8.pe_gc rfl (gcs T.s_SLOW)) (nomark _)) (pss_one (ps_expr (C8.pe_mt (m_P_write_slow T) hr (by decide) (pv 0) (pa_cons (pe_ix (r := rIxT K) ix_tup (pv 3) (pe_int) (fun _ _ => rfl)) (pa_cons (pe_ix (r := rIxT K) ix_tup (pv 3) (pe_int) (fun _ _ => rfl)) pa_nil))))) (pss_one (ps_if (pt_cmpR op_eq (pv 1) (C8.pe_gc rfl (gcs T.s_SYNC_SLOW)) (nomark _)) (pss_one (ps_expr (C8.pe_mt0 (m_P_sync_slow T) hr (by decide) (pv 0)))) (pss_one (ps_if (pt_cmpR op_eq (pv 1) (C8.pe_gc rfl (gcs T.s_SYNC_FAST)) (nomark _)) (pss_one (ps_expr (C8.pe_mt0 (m_P_sync_fast T) hr (by decide) (pv 0)))) (pss_one (ps_if (pt_cmpR op_eq (pv 1) (C8.pe_gc rfl (gcs T.s_DONE)) (nomark _)) (pss_one (ps_fld (pv 0) (pe_bl) rfl)) (pss_one (ps_if (pt_cmpR op_isN (pe_fld (pv 0) rfl) (pe_non) (nomark _)) (pss_one (ps_retN)) (pss_one (ps_if (PW.pt (pw_and (pt_cmpR op_eq (pv 1) (C8.pe_gc rfl (gcs T.s_FAST)) (nomark _)) (pw_and (pt_cmpR op_ne (pv 2) (C8.pe_gc rfl (gcs T.s_AROUND)) (nomark _)) (pw_and1 (pt_cmpR op_notN (pv 5) (pe_non) (nomark _)))))) (pss_cons (ps_expr (C8.pe_mt (m_P_put T) hr (by decide) (pv 0) (pa_cons (pv 5) (pa_cons (pv 3) pa_nil))))
      (pss_one (ps_if (PW.pt (pw_and (pt_cmpR op_notN (pv 4) (pe_non) (nomark _)) (pw_and1 (pt_cmpR op_ne (pv 4) (pv 5) (nomark _))))) (pss_one (ps_expr (pe_dpop2N (pe_fld (pv 0) rfl) (pv 4) (pe_non) ⟨rfl, rfl, rfl, rfl⟩))) (pss_nil)))) (pss_one (ps_if (PW.pt (pw_and (pt_cmpR op_eq (pv 1) (C8.pe_gc rfl (gcs T.s_FREE)) (nomark _)) (pw_and (pt_cmpR op_notN (pv 4) (pe_non) (nomark _)) (pw_and1 (PW.pt (pw_or (pt_cmpR op_eq (pv 2) (C8.pe_gc rfl (gcs T.s_AROUND)) (nomark _)) (pw_or1 (PW.pt (pw_and (pt_cmpR op_eq (pv 2) (C8.pe_gc rfl (gcs T.s_BACK)) (nomark _)) (pw_and1 (pt_cmpR op_ne (pv 4) (pv 5) (nomark _)))))))))))) (pss_cons (ps_expr (C8.pe_mt (m_P_write_fast T) hr (by decide) (pv 0) (pa_cons (pv 4) (pa_cons (pe_non) pa_nil))))
      (pss_one (ps_expr (pe_dpop2N (pe_fld (pv 0) rfl) (pv 4) (pe_non) ⟨rfl, rfl, rfl, rfl⟩)))) (pss_nil)))))))))))))), ?_⟩
  cases wd with
  | slow =>
    refine ⟨_, rfl, rfl, _, rfl, ite_tt (by decide +kernel) ?_⟩
    exact ⟨_, rfl, p, A.dx, _, rfl, ho, rfl, _, rfl, tr, _, _, _, rfl, rfl, SqT.of htr, rfl, _, rfl, tr, _, _, _, rfl, rfl, SqT.of htr, rfl, _, _, _, rfl, c, ρ, p, m, D, on, rc.b, rc.v, rfl, rfl, rfl, ⟨A, h⟩, by omega, by omega, fun ρ1 H1 g1 m1 => k _ _ g1 m1⟩
  | sslow =>
    refine ⟨_, rfl, rfl, _, rfl, ite_ff (by decide +kernel) ⟨_, rfl, rfl, _, rfl, ite_tt (by decide +kernel) ?_⟩⟩
    exact ⟨_, rfl, p, A.dx, _, rfl, ho, rfl, _, rfl, c, ρ, p, m, D, on, rfl, ⟨A, h⟩, fun ρ1 H1 g1 m1 => k _ _ g1 m1⟩
  | sfast =>
    refine ⟨_, rfl, rfl, _, rfl, ite_ff (by decide +kernel) ⟨_, rfl, rfl, _, rfl, ite_ff (by decide +kernel) ⟨_, rfl, rfl, _, rfl, ite_tt (by decide +kernel) ?_⟩⟩⟩
    exact ⟨_, rfl, p, A.dx, _, rfl, ho, rfl, _, rfl, c, ρ, p, m, D, on, rfl, ⟨A, h⟩, fun ρ1 H1 g1 m1 => k _ _ g1 m1⟩
  | done =>
    refine ⟨_, rfl, rfl, _, rfl, ite_ff (by decide +kernel) ⟨_, rfl, rfl, _, rfl, ite_ff (by decide +kernel) ⟨_, rfl, rfl, _, rfl, ite_ff (by decide +kernel) ⟨_, rfl, rfl, _, rfl, ite_tt (by decide +kernel) ?_⟩⟩⟩⟩
    obtain ⟨g1, m1⟩ := h.obj' m.turn m.begun m.hits on (.bl true)
    exact ⟨_, rfl, p, _, A.dx, _, rfl, ho, T.cl_Pair, T.na_Pair_is_done, (show (13 : Nat) < 1000 by decide), k _ _ ⟨A, g1⟩ (m1.mono (s1_sp (by decide) (by decide)))⟩
  | mark => exact absurd rfl nmk
  | fast =>
    refine ⟨_, rfl, rfl, _, rfl, ite_ff (by decide +kernel) ⟨_, rfl, rfl, _, rfl, ite_ff (by decide +kernel) ⟨_, rfl, rfl, _, rfl, ite_ff (by decide +kernel) ⟨_, rfl, rfl, _, rfl, ite_ff (by decide +kernel) ?_⟩⟩⟩⟩
    refine ⟨_, rfl, p, _, A.dx, _, _, rfl, ho, T.cl_Pair, T.na_Pair_fast, rfl, rfl, _, rfl, ite_ff (by simp) ?_⟩
    refine ⟨_, rfl, rfl, _, rfl, ite_tt (by decide +kernel) ⟨_, rfl, rfl, _, rfl, ?_⟩⟩
    by_cases hy : y = .arou
    · subst hy
      rw [word_fastA] at k
      exact ite_ff (by decide +kernel) (iteF ⟨_, rfl, rfl, _, rfl, ite_ff (by decide +kernel) (iteF (k _ _ ⟨A, h⟩ Mv.refl))⟩)
    · refine ite_tt (by cases y <;> first | exact absurd rfl hy | decide +kernel) ⟨_, rfl, rfl, _, rfl, ?_⟩
      cases tk with
      | none => exact ite_ff nn_none ⟨_, rfl, rfl, _, rfl, ite_ff (by decide +kernel) (iteF (k _ _ ⟨A, h⟩ Mv.refl))⟩
      | some t =>
        rw [word_fast hy] at k
        have htl := ht1 t rfl
        refine ite_tt (nn_some t) ?_
        refine ⟨_, rfl, p, A.dx, _, rfl, ho, rfl, _, rfl, _, rfl, _, _, _, rfl, c, ρ, p, m, D, on, t, rc, rfl, rfl, ⟨tr, rfl, htr⟩, ⟨A, h⟩, by omega, htl, by omega, fun ρ1 H1 ⟨A1, g1⟩ m1 => ?_⟩
        obtain ⟨dn1, hob1⟩ := g1.obj
        cases own with
        | none => exact ⟨_, rfl, rfl, _, rfl, ite_ff nn_none (iteF (k _ _ ⟨A1, g1⟩ m1))⟩
        | some o =>
          refine ⟨_, rfl, rfl, _, rfl, ite_tt (nn_some o) ⟨_, rfl, _, rfl, oV_scal (some o) (some t), _, rfl, ?_⟩⟩
          by_cases hot : (some o : Option Nat) = some t
          · rw [if_pos hot] at k
            exact ite_ff (oV_eqT _ _ hot) (k _ _ ⟨A1, g1⟩ m1)
          · rw [if_neg hot] at k
            obtain ⟨kvs, hk1, hk2, hk3⟩ := pop_ok g1 o
            refine ite_tt (oV_ne _ _ hot) ?_
            refine ⟨_, rfl, p, _, A1.dx, _, _, rfl, hob1, T.cl_Pair, T.na_Pair_slots, rfl, A1.ak, rfl, .inl ⟨_, .inl hk1⟩, _, rfl, .inl ⟨kvs, Sum.inl (o : Int), hk1, rfl, fun v hv => ?_, fun hn => ?_⟩⟩
            · obtain ⟨g2, m2⟩ := hk2 v hv
              exact k _ _ ⟨A1, g2⟩ (m1.trans m2)
            · have e := hk3 hn
              rw [show dropO (know m t rc) (some o) = drop (know m t rc) o from rfl, e] at k
              exact k _ _ ⟨A1, g1⟩ m1
  | free =>
    refine ⟨_, rfl, rfl, _, rfl, ite_ff (by decide +kernel) ⟨_, rfl, rfl, _, rfl, ite_ff (by decide +kernel) ⟨_, rfl, rfl, _, rfl, ite_ff (by decide +kernel) ⟨_, rfl, rfl, _, rfl, ite_ff (by decide +kernel) ?_⟩⟩⟩⟩
    refine ⟨_, rfl, p, _, A.dx, _, _, rfl, ho, T.cl_Pair, T.na_Pair_fast, rfl, rfl, _, rfl, ite_ff (by simp) ?_⟩
    refine ⟨_, rfl, rfl, _, rfl, ite_ff (by decide +kernel) (iteF ⟨_, rfl, rfl, _, rfl, ite_tt (by decide +kernel) ⟨_, rfl, rfl, _, rfl, ?_⟩⟩)⟩
    cases own with
    | none => exact ite_ff nn_none (iteF (k _ _ ⟨A, h⟩ Mv.refl))
    | some o =>
      have hol := ho1 o rfl
      refine ite_tt (nn_some o) ⟨_, rfl, rfl, _, rfl, ?_⟩
      have go : ¬ (y = .thr ∨ (y = .back ∧ some o = tk)) → ∀ (ρ1 : Ro) (H1 : Hp), PairAt K c ρ1 H1 p m (app D (.fast o none)) on → Mv SP ρ H ρ1 H1 → ∃ (A1 : PA) (fs : List (Str × V)) (kvs : List (Key × V)), H1 p = some (.ins (He.ga K "Pair") A1.dx fs) ∧ fs.lookup ("slots" : Str) = some (.ref A1.ak) ∧ H1 A1.ak = some (.dK kvs) ∧ (∀ v, valV kvs (Sum.inl (o : Int)) = some v → Q .non (upd H1 A1.ak (.dK (dropK kvs (Sum.inl (o : Int)))))) ∧ (valV kvs (Sum.inl (o : Int)) = none → Q .non H1) := fun hw ρ1 H1 ⟨A1, g1⟩ m1 => by
        rw [word_free hw] at k
        obtain ⟨dn1, hob1⟩ := g1.obj
        obtain ⟨kvs, hk1, hk2, hk3⟩ := pop_ok g1 o
        refine ⟨A1, _, kvs, hob1, rfl, hk1, fun v hv => ?_, fun hn => ?_⟩
        · obtain ⟨g2, m2⟩ := hk2 v hv
          exact k _ _ ⟨A1, g2⟩ (m1.trans m2)
        · have e := hk3 hn
          rw [e] at k
          exact k _ _ ⟨A1, g1⟩ m1
      cases y with
      | thr =>
        rw [word_freeN (.inl rfl)] at k
        exact ite_ff (by decide +kernel) ⟨_, rfl, rfl, _, rfl, ite_ff (by decide +kernel) (iteF (k _ _ ⟨A, h⟩ Mv.refl))⟩
      | arou =>
        refine ite_tt (by decide +kernel) (iteT ?_)
        refine ⟨_, rfl, p, A.dx, _, rfl, ho, rfl, _, rfl, _, _, _, rfl, c, ρ, p, m, D, on, o, none, rfl, rfl, rfl, ⟨A, h⟩, by omega, hol, by omega, fun ρ1 H1 g1 m1 => ?_⟩
        obtain ⟨A1, fs, kvs, z1, z2, z3, z4, z5⟩ := go (by simp) ρ1 H1 g1 m1
        exact ⟨_, rfl, p, _, A1.dx, _, _, rfl, z1, T.cl_Pair, T.na_Pair_slots, z2, A1.ak, rfl, .inl ⟨_, .inl z3⟩, _, rfl, .inl ⟨kvs, Sum.inl (o : Int), z3, rfl, z4, z5⟩⟩
      | back =>
        refine ite_ff (by decide +kernel) ⟨_, rfl, rfl, _, rfl, ite_tt (by decide +kernel) ⟨_, rfl, _, rfl, oV_scal (some o) tk, _, rfl, ?_⟩⟩
        by_cases hot : (some o : Option Nat) = tk
        · rw [word_freeN (.inr ⟨rfl, hot⟩)] at k
          exact ite_ff (oV_eqT _ _ hot) (k _ _ ⟨A, h⟩ Mv.refl)
        · refine ite_tt (oV_ne _ _ hot) ?_
          refine ⟨_, rfl, p, A.dx, _, rfl, ho, rfl, _, rfl, _, _, _, rfl, c, ρ, p, m, D, on, o, none, rfl, rfl, rfl, ⟨A, h⟩, by omega, hol, by omega, fun ρ1 H1 g1 m1 => ?_⟩
          obtain ⟨A1, fs, kvs, z1, z2, z3, z4, z5⟩ := go (by rintro (z | ⟨_, z⟩); cases z; exact hot z) ρ1 H1 g1 m1
          exact ⟨_, rfl, p, _, A1.dx, _, _, rfl, z1, T.cl_Pair, T.na_Pair_slots, z2, A1.ak, rfl, .inl ⟨_, .inl z3⟩, _, rfl, .inl ⟨kvs, Sum.inl (o : Int), z3, rfl, z4, z5⟩⟩
end
end Kb
set_option Elab.async false
set_option linter.all false
set_option maxRecDepth 100000
set_option maxHeartbeats 4000000
namespace Kb
open PySem PySem.Spec PyProof.Rows L2
/-! ### plain facts of the plans -/
theorem clean_len {c : Cfg} {m : Mem} {s : Nat} : (clean c m s).1.kn.length = m.kn.length := by
  unfold clean
  cases Kn.at m.kn s with
  | none => rfl
  | some e => exact set_len
theorem clean_steps {c : Cfg} (ok : OkC c) {m : Mem} {s : Nat} : (clean c m s).2.length ≤ 8 := by
  unfold clean
  cases Kn.at m.kn s with
  | none => exact Nat.zero_le _
  | some e =>
    show (c.cl.map _).length ≤ 8
    rw [List.length_map]
    exact ok.o4.len
theorem drop_len {m : Mem} {s : Nat} : (drop m s).kn.length = m.kn.length := set_len
theorem know_len {m : Mem} {s : Nat} {r : Rec} : (know m s r).kn.length = m.kn.length := set_len
theorem take_len {c : Cfg} {m : Mem} : (take c m).2.1.kn.length = m.kn.length := by
  unfold take
  cases frees m.kn with
  | cons s r => rfl
  | nil =>
    cases clears m.kn with
    | cons s r => exact drop_len
    | nil =>
      cases oldest m.kn with
      | nil => rfl
      | cons p r => exact drop_len.trans clean_len
theorem take_steps {c : Cfg} (ok : OkC c) {m : Mem} : (take c m).2.2.length ≤ 8 := by
  unfold take
  cases frees m.kn with
  | cons s r => exact Nat.zero_le _
  | nil =>
    cases clears m.kn with
    | cons s r => exact Nat.zero_le _
    | nil =>
      cases oldest m.kn with
      | nil => exact Nat.zero_le _
      | cons p r => exact clean_steps ok
theorem take_lt {c : Cfg} {m : Mem} (h1 : 1 ≤ m.kn.length) : (take c m).1 < m.kn.length := by
  cases hf : frees m.kn with
  | cons s r =>
    rw [take_free hf]
    have z : s ∈ frees m.kn := by rw [hf]; exact List.mem_cons_self
    exact List.mem_range.mp (List.mem_filter.mp z).1
  | nil =>
    cases hc : clears m.kn with
    | cons s r =>
      rw [take_clear hf hc]
      have z := (pick_min (f := rowAt c.cho m.kn) s r).1
      rw [← hc] at z
      obtain ⟨e, he, _⟩ := clears_in z
      exact at_lt he
    | nil =>
      cases ho : oldest m.kn with
      | nil =>
        unfold take
        rw [hf, hc, ho]
        exact h1
      | cons p r =>
        rw [take_dirty hf hc ho]
        obtain ⟨e, he, _⟩ := oldest_in (kn := m.kn) (q := p) (by rw [ho]; exact List.mem_cons_self)
        exact at_lt he
theorem cleanL_snoc (c : Cfg) (s : Nat) : ∀ (l : List Nat) (m : Mem), cleanL c (l ++ [s]) m = ((clean c (cleanL c l m).1 s).1, (cleanL c l m).2 ++ (clean c (cleanL c l m).1 s).2)
  | [], m => by
    show ((clean c m s).1, (clean c m s).2 ++ []) = ((clean c m s).1, [] ++ (clean c m s).2)
    rw [List.append_nil, List.nil_append]
  | x :: l, m => by
    have ih := cleanL_snoc c s l (clean c m x).1
    show ((cleanL c (l ++ [s]) (clean c m x).1).1, (clean c m x).2 ++ (cleanL c (l ++ [s]) (clean c m x).1).2) = _
    rw [ih]
    show _ = ((clean c (cleanL c l (clean c m x).1).1 s).1, ((clean c m x).2 ++ (cleanL c l (clean c m x).1).2) ++ (clean c (cleanL c l (clean c m x).1).1 s).2)
    rw [List.append_assoc]
theorem clean_dom {c : Cfg} {m : Mem} {s j : Nat} {e : Ent} (h : Kn.at m.kn j = some e) : ∃ e', Kn.at (clean c m s).1.kn j = some e' ∧ e'.r.b = e.r.b := by
  cases q : Kn.at m.kn s with
  | none =>
    unfold clean
    rw [q]
    exact ⟨e, h, rfl⟩
  | some e0 =>
    rw [clean_at q]
    show ∃ e', Kn.at (m.kn.set s (some { e0 with r := { e0.r with d := false } })) j = some e' ∧ _
    rw [at_set (at_lt q)]
    by_cases z : j = s
    · subst z
      rw [q] at h
      cases h
      exact ⟨_, if_pos rfl, rfl⟩
    · exact ⟨e, by rw [if_neg z]; exact h, rfl⟩
theorem cleanL_dom {c : Cfg} : ∀ (l : List Nat) (m : Mem) {j : Nat} {e : Ent}, Kn.at m.kn j = some e → ∃ e', Kn.at (cleanL c l m).1.kn j = some e' ∧ e'.r.b = e.r.b
  | [], _, _, e, h => ⟨e, h, rfl⟩
  | x :: l, m, _, _, h => by
    obtain ⟨e1, h1, b1⟩ := clean_dom (c := c) (s := x) h
    obtain ⟨e2, h2, b2⟩ := cleanL_dom l (clean c m x).1 h1
    exact ⟨e2, h2, b2.trans b1⟩
theorem cleanL_len {c : Cfg} : ∀ (l : List Nat) (m : Mem), (cleanL c l m).1.kn.length = m.kn.length
  | [], _ => rfl
  | x :: l, m => (cleanL_len l (clean c m x).1).trans clean_len
theorem cleanL_steps {c : Cfg} (ok : OkC c) : ∀ (l : List Nat) (m : Mem), (cleanL c l m).2.length ≤ 8 * l.length
  | [], _ => Nat.zero_le _
  | x :: l, m => by
    have i := cleanL_steps ok l (clean c m x).1
    have j := clean_steps ok (m := m) (s := x)
    show ((clean c m x).2 ++ (cleanL c l (clean c m x).1).2).length ≤ 8 * (x :: l).length
    rw [List.length_append, List.length_cons]
    omega
theorem dirt_le (kn : Kn) : (oldest kn).length ≤ kn.length := by
  unfold oldest
  rw [(srt_perm _).length_eq]
  unfold dirt
  have z := List.length_filterMap_le (fun s => match Kn.at kn s with | some e => if e.r.d = true then some (e.r.t, s) else none | none => none) (List.range kn.length)
  rw [List.length_range] at z
  exact z
theorem cut_take (xs : List V) (b : Nat) (bound : Nat) (h : b = xs.length - bound) : cutV xs none (some (if (xs.length : Int) - (bound : Int) > 0 then (xs.length : Int) - (bound : Int) else 0)) = xs.take b := by
  unfold cutV
  have e : (if (xs.length : Int) - (bound : Int) > 0 then (xs.length : Int) - (bound : Int) else 0) = (b : Int) := by
    by_cases q : (xs.length : Int) - (bound : Int) > 0
    · rw [if_pos q]; omega
    · rw [if_neg q]; omega
  rw [e, HT.sIx_nat, HT.sIx_none, List.drop_zero, Nat.sub_zero, Nat.min_eq_left (by omega)]
section
variable {P : Program} {w : World} {K : PySem.W.Frag} {mg : Str → Option Value} {base : Heap}
def sp_keep_bound (K : PySem.W.Frag) : Sp := Sp1 fun a H Q => ∃ (c : Cfg) (ρ : Ro) (p : Addr) (m : Mem) (D : Ds) (on : Bool) (nb : Nat), a = .ref p ∧ PairAt K c ρ H p m D on ∧ OkC c ∧ (∀ s e, Kn.at m.kn s = some e → e.r.b < nb) ∧ Rm nb m.kn.length 72 D ∧
  ∀ ρ' H', PairAt K c ρ' H' p (cleanL c (over c m.kn) m).1 (run (cleanL c (over c m.kn) m).2 D) on → Mv SP ρ H ρ' H' → Q .non H'
theorem sc_P_keep_bound : FnScope ["self", "dirty", "turn", "slot"] ["self"] (defScope s_P_keep_bound) := ⟨rfl, rfl, rfl, by decide +kernel, rfl, by decide +kernel, by decide +kernel⟩
theorem m_P_keep_bound (T : Txt K mg) : C8.Met P w K mg base 7 (He.ga K "Pair") "keep_bound" (sp_keep_bound K) [] := by
  refine met_of T.F_P_keep_bound T.cl_Pair T.mt_Pair_keep_bound sc_P_keep_bound len1 (fun _ _ _ _ _ _ us hl => match us, hl with | [_], _ => rfl) (fun cdv A outer s H vs Q E hr h => ?_)
  obtain ⟨a, rfl, c, ρ, p, m, D, on, nb, rfl, ⟨A, h⟩, ok, hb, rm, k⟩ := h
  obtain ⟨dn, ho⟩ := h.obj
  have hk8 := h.kn.1
  refine ⟨_, pss_cons (ps_set (i := 1) sc_P_keep_bound.nd rfl (.inl rfl) (C8.pe_mt0 (m_P_dirty_slots T) hr (by decide) (pv 0)))
      (pss_one (ps_for PassesOwn.never rfl (pi_list (pe_slice sl_list (pv 1) (po_none) (po_some (pe_callB (call_max2 rfl) (by rfl) T.f_max (by decide +kernel) (pa_cons (pe_int) (pa_cons (pe_op op_sub (pe_callB call_len_seq (by rfl) T.f_len (by decide +kernel) (pa_cons (pv 1) pa_nil)) (pe_pr (p_Rr_bound T) hr (by decide) (pe_fld (pv 0) rfl))) pa_nil)))))) (pg_tup (n := 2) rfl (pgs_cons (pg_name (i := 2) sc_P_keep_bound.nd rfl (.inl rfl)) (pgs_cons (pg_name (i := 3) sc_P_keep_bound.nd rfl (.inl rfl)) pgs_nil))) (pss_one (ps_expr (C8.pe_mt (m_P_clean_slot T) hr (by decide) (pv 0) (pa_cons (pv 3) pa_nil)))))), ?_⟩
  refine ⟨_, rfl, p, A.dx, _, rfl, ho, rfl, _, rfl, c, ρ, p, m, D, on, rfl, ⟨A, h⟩, fun ρ1 H1 qa ys m1 r1 hq hys => ?_⟩
  have h1 := h.mv0 m1
  obtain ⟨dn1, ho1⟩ := h1.obj
  obtain ⟨dxr, tr, hr1, hr2, hr3⟩ := h1.rul
  have hlen := hys.len
  refine ⟨_, rfl, _, rfl, _, _, rfl, .inl (SqL.of hq), _, rfl, p, _, A.dx, _, _, rfl, ho1, T.cl_Pair, T.na_Pair_rule, rfl, A.ar, dxr, _, rfl, hr1, _, rfl, c, ρ1, A.ar, .int (c.bound : Int), rfl, h1.rul, rfl, _, _, rfl, rfl, _, _, rfl, _, rfl, qa, ys, rfl, SqL.of hq, fun q2 hq2 => ?_⟩
  generalize hzs : cutV ys none _ = zs
  have hz2 : zs = ys.take (ys.length - c.bound) := hzs.symm.trans (cut_take ys _ c.bound rfl)
  subst hz2
  clear hzs
  generalize hbd : ys.length - c.bound = b
  have hover : over c m.kn = ((oldest m.kn).take b).map (·.2) := by
    unfold over
    rw [hlen, hbd]
  have m2 := m1.new hq2 0 (.lst (ys.take b))
  have hys2 := hys.mono (Mv.refl (S := S0) (ρ := ρ1).new hq2 0 (.lst (ys.take b))).tups
  have h2 := h1.mv0 (Mv.refl.new hq2 0 (.lst (ys.take b)))
  have hq22 : upd H1 q2 (.lst (ys.take b)) q2 = some (.lst (ys.take b)) := upd_same
  have r2 : rs ρ1 q2 0 q2 = 0 := rs_same
  generalize upd H1 q2 (.lst (ys.take b)) = H2 at m2 hys2 h2 hq22 ⊢
  generalize rs ρ1 q2 0 = ρ2 at m2 h2 r2
  have hol := dirt_le m.kn
  refine ⟨q2, rfl, ⟨_, SqL.of hq22⟩, ?_⟩
  refine for_it (walk_list (xs := ys.take b)) (fun i σ H' => ∃ x y ρ', σ = [some (.ref p), some (.ref qa), x, y] ∧ Mv SP ρ2 H2 ρ' H' ∧ PairAt K c ρ' H' p (cleanL c ((over c m.kn).take i) m).1 (run (cleanL c ((over c m.kn).take i) m).2 D) on)
    ⟨_, _, ρ2, rfl, Mv.refl, by rw [List.take_zero]; exact ⟨A, h2⟩⟩ (fun i σ H' _ ⟨_, _, _, _, mm, _⟩ => SqL.of (mm.keeps hq22 r2 sp0)) (fun i x σ Hz H3 hi ⟨x0, y0, ρ3, e0, m3, g3⟩ y => ?_) (fun σ H3 ⟨x0, y0, ρ3, e0, m3, g3⟩ => ?_)
  · obtain ⟨rfl, hx⟩ := y
    subst e0
    have hib : i < b ∧ i < ys.length := by
      rw [List.length_take] at hi
      omega
    rw [List.getElem?_take_of_lt hib.1] at hx
    obtain ⟨pr, hpr, t, rfl, ht⟩ := hys2.get' hx
    have ht3 := m3.tups _ _ ht
    have hov : (over c m.kn)[i]? = some pr.2 := by
      rw [hover, List.getElem?_map, List.getElem?_take_of_lt hib.1, hpr]
      rfl
    obtain ⟨e, he, hde, _⟩ := oldest_in (List.mem_of_getElem? hpr)
    obtain ⟨e', he', hb'⟩ := cleanL_dom (c := c) ((over c m.kn).take i) m he
    obtain ⟨A3, gg3⟩ := g3
    obtain ⟨dn3, ho3⟩ := gg3.obj
    refine ⟨t, _, rfl, SqT.of ht3, rfl, _, _, rfl, _, _, rfl, rfl, ?_⟩
    have st := cleanL_steps ok ((over c m.kn).take i) m
    rw [List.length_take] at st
    refine ⟨_, rfl, p, A3.dx, _, rfl, ho3, rfl, _, rfl, _, _, rfl, c, ρ3, p, _, _, on, pr.2, e', nb, rfl, rfl, ⟨A3, gg3⟩, ok, he', by rw [hb']; exact hb _ _ he, by rw [cleanL_len]; exact rm.r (by omega), fun ρ4 H4 g4 m4 => ⟨_, _, ρ4, rfl, m3.trans m4, ?_⟩⟩
    have et : (over c m.kn).take (i + 1) = (over c m.kn).take i ++ [pr.2] := by
      rw [List.take_succ, hov]
      rfl
    rw [et, cleanL_snoc, run_app]
    exact g4
  · subst e0
    have et : (over c m.kn).take (ys.take b).length = over c m.kn := by
      refine List.take_of_length_le ?_
      rw [hover, List.length_map, List.length_take, List.length_take, hlen]
      exact Nat.le_refl _
    rw [et] at g3
    exact k _ _ g3 ((m2.mono s0_sp).trans m3)
end
/-! ### a read -/
structure WF (nb : Nat) (m : Mem) (D : Ds) : Prop where
  uq : Uq m.kn
  kb : ∀ s e, Kn.at m.kn s = some e → e.r.b < nb
  n1 : 1 ≤ m.kn.length
  lk : ∀ s e, Kn.at m.kn s = some e → ∃ r, D.fast.sh[s]? = some (some r) ∧ r.v = e.r.v
theorem begin_len {m : Mem} {b : Nat} : (begin_ m b).2.kn.length = m.kn.length := by
  cases h : slotOf m.kn b with
  | none => rw [begin_none h]
  | some s =>
    rw [begin_some h]
    obtain ⟨e, he, _⟩ := slotOf_at h
    show (modE m.kn s _).length = _
    rw [modE_at he]
    exact set_len
theorem begin_dom {m : Mem} {b j : Nat} {e : Ent} (h : Kn.at (begin_ m b).2.kn j = some e) : ∃ e', Kn.at m.kn j = some e' ∧ e'.r = e.r := by
  cases hs : slotOf m.kn b with
  | none =>
    rw [begin_none hs] at h
    exact ⟨e, h, rfl⟩
  | some s =>
    rw [begin_some hs] at h
    obtain ⟨e0, he0, _⟩ := slotOf_at hs
    have h : Kn.at (modE m.kn s (fun e => touch e m.begun)) j = some e := h
    rw [modE_at he0, at_set (at_lt he0)] at h
    by_cases z : j = s
    · rw [if_pos z] at h
      cases h
      exact ⟨e0, by rw [z]; exact he0, rfl⟩
    · rw [if_neg z] at h
      exact ⟨e, h, rfl⟩
theorem read_hit {c : Cfg} {m : Mem} {b s : Nat} {sv : Int} {e : Ent} (h : slotOf m.kn b = some s) (he : Kn.at m.kn s = some e) : read c m b sv = (e.r.v, (begin_ m b).2, [.rfast]) := by
  unfold read
  rw [begin_some h]
  show ((match Kn.at (modE m.kn s (fun e => touch e m.begun)) s with | some e => e.r.v | none => 0), _, _) = _
  rw [modE_at he, at_set (at_lt he), if_pos rfl]
  rfl
theorem read_miss {c : Cfg} {m : Mem} {b : Nat} {sv : Int} (h : slotOf m.kn b = none) : read c m b sv = if c.keep = true then (sv, know (take c (begin_ m b).2).2.1 (take c (begin_ m b).2).1 ⟨b, sv, 0, false⟩, .rslow :: ((take c (begin_ m b).2).2.2 ++ [.fast (take c (begin_ m b).2).1 (some ⟨b, sv, 0, false⟩)])) else (sv, (begin_ m b).2, [.rslow]) := by
  unfold read
  rw [begin_none h]
def svAt (D : Ds) (n : Nat) : Int := (D.slow.sh[n]?).getD 0
section
variable {P : Program} {w : World} {K : PySem.W.Frag} {mg : Str → Option Value} {base : Heap}
def sp_read (K : PySem.W.Frag) : Sp := Sp2 fun a b H Q => ∃ (c : Cfg) (ρ : Ro) (p : Addr) (m : Mem) (D : Ds) (n nb : Nat), a = .ref p ∧ b = .int (n : Int) ∧ PairAt K c ρ H p m D true ∧ OkC c ∧ WF nb m D ∧ n < nb ∧ Rm nb m.kn.length 20 D ∧
  ∀ ρ' H', PairAt K c ρ' H' p (read c m n (svAt D n)).2.1 (run (read c m n (svAt D n)).2.2 D) true → Mv SP ρ H ρ' H' → Q (.int (read c m n (svAt D n)).1) H'
theorem sc_P_read : FnScope ["self", "block", "slot", "value"] ["self", "block"] (defScope s_P_read) := ⟨rfl, rfl, rfl, by decide +kernel, rfl, by decide +kernel, by decide +kernel⟩
theorem m_P_read (T : Txt K mg) : C8.Met P w K mg base 8 (He.ga K "Pair") "read" (sp_read K) [] := by
  refine met_of T.F_P_read T.cl_Pair T.mt_Pair_read sc_P_read len2 (fun _ _ _ _ _ _ us hl => match us, hl with | [_, _], _ => rfl) (fun cdv A outer s H vs Q E hr h => ?_)
  obtain ⟨a, b, rfl, c, ρ, p, m, D, n, nb, rfl, rfl, ⟨A, h⟩, ok, wf, hn, rm, k⟩ := h
  obtain ⟨dn, ho⟩ := h.obj
  have l1 := rm.l1
  have l2 := rm.l2
  refine ⟨_, pss_cons (ps_expr (C8.pe_mt0 (m_P_need_on T) hr (by decide) (pv 0)))
      (pss_cons (ps_expr (C8.pe_mt (m_P_check_block T) hr (by decide) (pv 0) (pa_cons (pv 1) pa_nil)))
      (pss_cons (ps_set (i := 2) sc_P_read.nd rfl (.inl rfl) (C8.pe_mt (m_P_begin T) hr (by decide) (pv 0) (pa_cons (pv 1) pa_nil)))
      (pss_cons (ps_if (pt_cmpR op_notN (pv 2) (pe_non) (nomark _)) (pss_one (ps_ret (pe_ix (r := rIxT K) ix_tup (C8.pe_mt (m_D_read T) hr (by decide) (pe_fld (pv 0) rfl) (pa_cons (pv 2) pa_nil)) (pe_int) (fun _ _ => rfl)))) (pss_nil))
      (pss_cons (ps_set (i := 3) sc_P_read.nd rfl (.inl rfl) (C8.pe_mt (m_D_read T) hr (by decide) (pe_fld (pv 0) rfl) (pa_cons (pv 1) pa_nil)))
      (pss_cons (ps_if (PW.pt (pw_and (pt_cmpR op_eq (pe_pr (p_Rr_reading T) hr (by decide) (pe_fld (pv 0) rfl)) (C8.pe_gc rfl (gcs T.s_KEEP)) (nomark _)) (pw_and1 (pt_cmpR op_notN (pe_fld (pv 0) rfl) (pe_non) (nomark _))))) (pss_one (ps_expr (C8.pe_mt (m_P_put T) hr (by decide) (pv 0) (pa_cons (C8.pe_mt0 (m_P_take T) hr (by decide) (pv 0)) (pa_cons (pe_tup (pa_cons (pv 1) (pa_cons (pv 3) (pa_cons (pe_int) (pa_cons (pe_bl) pa_nil))))) pa_nil))))) (pss_nil))
      (pss_one (ps_ret (pv 3)))))))), ?_⟩
  refine ⟨_, rfl, p, A.dx, _, rfl, ho, rfl, _, rfl, c, ρ, p, m, D, rfl, ⟨A, h⟩, ?_⟩
  refine ⟨_, rfl, p, A.dx, _, rfl, ho, rfl, _, rfl, _, _, rfl, c, ρ, p, m, D, true, n, rfl, rfl, ⟨A, h⟩, by omega, ?_⟩
  refine ⟨_, rfl, p, A.dx, _, rfl, ho, rfl, _, rfl, _, _, rfl, c, ρ, p, m, D, true, n, rfl, rfl, ⟨A, h⟩, wf.uq, fun ρ1 H1 ⟨A1, g1⟩ m1 => ?_⟩
  obtain ⟨dn1, ho1⟩ := g1.obj
  cases hsl : slotOf m.kn n with
  | some s =>
    obtain ⟨e, he, heb⟩ := slotOf_at hsl
    obtain ⟨r, hr1, hr2⟩ := wf.lk s e he
    rw [read_hit hsl he] at k
    rw [begin_some hsl] at k g1 ⊢
    obtain ⟨dx, Lf, hd, rd, hfk⟩ := g1.fast
    refine ⟨_, rfl, rfl, _, rfl, ite_tt (nn_some s) ?_⟩
    refine ⟨_, rfl, p, _, A1.dx, _, _, rfl, ho1, T.cl_Pair, T.na_Pair_fast, rfl, A1.df, dx, _, rfl, hd, rfl, _, rfl, ?_⟩
    refine ⟨_, _, rfl, Option Rec, cR, 1020, ρ1, A1.df, D.fast, s, some r, rfl, rfl, ⟨dx, Lf, hd, rd, hfk⟩, hr1, fun H2 v g2 hv m2 => ?_⟩
    obtain ⟨t, rfl, ht⟩ := hv
    refine ⟨t, _, _, _, rfl, rfl, SqT.of ht, rfl, ?_⟩
    rw [hr2]
    exact k _ _ ⟨A1, g1.fast' g2 m2⟩ (m1.trans (m2.mono (sd_sp (by decide) (by decide))))
  | none =>
    have hbl := begin_len (m := m) (b := n)
    have hbd := fun j e (z : Kn.at (begin_ m n).2.kn j = some e) => begin_dom z
    rw [read_miss hsl] at k
    have e0 : (begin_ m n).1 = none := by rw [begin_none hsl]
    rw [e0]
    generalize (begin_ m n).2 = mb at *
    obtain ⟨dx, Lf, hd, rd, hfk⟩ := g1.slow
    have hsv : D.slow.sh[n]? = some (svAt D n) := by
      unfold svAt
      rw [List.getElem?_eq_getElem (by omega)]
      rfl
    generalize svAt D n = sv at *
    refine ⟨_, rfl, rfl, _, rfl, ite_ff nn_none ?_⟩
    refine ⟨_, rfl, p, _, A1.dx, _, _, rfl, ho1, T.cl_Pair, T.na_Pair_slow, rfl, A1.ds, dx, _, rfl, hd, rfl, _, rfl, ?_⟩
    refine ⟨_, _, rfl, Int, cI, 1010, ρ1, A1.ds, D.slow, n, sv, rfl, rfl, ⟨dx, Lf, hd, rd, hfk⟩, hsv, fun H2 v g2 hv m2 => ?_⟩
    cases (show v = .int sv from hv)
    have h2 := g1.slow' g2 m2
    have rm2 : Rm nb m.kn.length 19 (app D .rslow) := (rm.less (M := 19 + 1) (by omega)).app .rslow
    obtain ⟨dn2, ho2⟩ := h2.obj
    obtain ⟨dxr, tr, hr1, hr2, hr3⟩ := h2.rul
    have m12 := m1.trans (m2.mono (sd_sp (by decide) (by decide)))
    refine ⟨_, rfl, p, _, A1.dx, _, _, rfl, ho2, T.cl_Pair, T.na_Pair_rule, rfl, A1.ar, dxr, _, rfl, hr1, _, rfl, c, ρ1, A1.ar, .str (keepS c.keep), rfl, h2.rul, rfl, rfl, _, rfl, ?_⟩
    cases hkp : c.keep with
    | false =>
      rw [hkp, if_neg Bool.false_ne_true] at k
      exact ite_ff (by decide +kernel) (iteF ⟨_, rfl, k _ _ ⟨A1, h2⟩ m12⟩)
    | true =>
      rw [hkp, if_pos rfl] at k
      refine ite_tt (by decide +kernel) ⟨_, rfl, p, _, A1.dx, _, _, rfl, ho2, T.cl_Pair, T.na_Pair_fast, rfl, rfl, _, rfl, ite_tt (nn_ref _) ?_⟩
      refine ⟨_, rfl, p, A1.dx, _, rfl, ho2, rfl, _, rfl, p, A1.dx, _, rfl, ho2, rfl, ?_⟩
      refine ⟨_, rfl, c, ρ1, p, mb, app D .rslow, true, nb, rfl, ⟨A1, h2⟩, ok, by rw [hbl]; exact wf.n1, fun s e z => ?_, by rw [hbl]; exact rm2.less (by omega), fun ρ3 H3 ⟨A3, g3⟩ m3 => ?_⟩
      · obtain ⟨e', z1, z2⟩ := hbd s e z
        rw [← z2]
        exact wf.kb s e' z1
      · have hlt := take_lt (c := c) (m := mb) (by rw [hbl]; exact wf.n1)
        have htl := take_len (c := c) (m := mb)
        have hst := take_steps ok (m := mb)
        have rm3 : Rm nb m.kn.length 2 (run (take c mb).2.2 (app D .rslow)) := rm2.r (by omega)
        refine ⟨_, rfl, _, rfl, (show (4 : Nat) ≤ sizeLine by decide), fun q hq => ?_⟩
        have m4 : Mv S0 ρ3 H3 _ _ := Mv.refl.new hq 0 (.tup (recV ⟨n, sv, 0, false⟩))
        have w2 := rm3.w2
        have l2 := rm3.l2
        refine ⟨_, _, _, rfl, c, _, p, (take c mb).2.1, run (take c mb).2.2 (app D .rslow), true, (take c mb).1, ⟨n, sv, 0, false⟩, rfl, rfl, ⟨q, rfl, upd_same⟩, ⟨A3, g3.mv0 m4⟩, by omega, by omega, by omega, fun ρ5 H5 g5 m5 => ?_⟩
        refine ⟨_, rfl, k _ _ ?_ ((m12.trans m3).trans ((m4.mono s0_sp).trans m5))⟩
        rw [show run (.rslow :: ((take c mb).2.2 ++ [Stp.fast (take c mb).1 (some ⟨n, sv, 0, false⟩)])) D = app (run (take c mb).2.2 (app D .rslow)) (.fast (take c mb).1 (some ⟨n, sv, 0, false⟩)) from by rw [run_cons, run_snoc]]
        exact g5
end
end Kb
set_option Elab.async false
set_option linter.all false
set_option maxRecDepth 100000
set_option maxHeartbeats 4000000
/-! The values of the blocks, the dirty blocks: nothing depends on the order of the dict. -/
namespace Kb
open PySem PySem.Spec PyProof.Rows L2
theorem foldl_perm {α β : Type} {f : β → α → β} : ∀ {l m : List α}, l.Perm m → (∀ x ∈ l, ∀ y ∈ l, ∀ z, f (f z x) y = f (f z y) x) → ∀ z, l.foldl f z = m.foldl f z := by
  intro l m p
  induction p with
  | nil => intro _ z; rfl
  | cons x p ih => intro h z; exact ih (fun a ha b hb => h a (List.mem_cons_of_mem _ ha) b (List.mem_cons_of_mem _ hb)) _
  | swap x y l =>
    intro h z
    show l.foldl f (f (f z y) x) = l.foldl f (f (f z x) y)
    rw [h y List.mem_cons_self x (List.mem_cons_of_mem _ List.mem_cons_self) z]
  | trans p1 p2 i1 i2 =>
    intro h z
    rw [i1 h z]
    exact i2 (fun a ha b hb => h a (p1.mem_iff.mpr ha) b (p1.mem_iff.mpr hb)) z
def setE (f : List Int) (x : Nat × Ent) : List Int := f.set x.2.r.b x.2.r.v
theorem vals_canon (kn : Kn) (sh : List Int) : vals kn sh = (canon kn).foldl setE sh := by
  unfold vals canon
  generalize List.range kn.length = l
  induction l generalizing sh with
  | nil => rfl
  | cons s l ih =>
    rw [List.foldl_cons, ih]
    cases q : Kn.at kn s with
    | none => rw [List.filterMap_cons_none (by rw [q]; rfl)]
    | some e =>
      rw [List.filterMap_cons_some (b := (s, e)) (by rw [q]; rfl)]
      rfl
def UqF (kn : Kn) : Prop := ∀ s s' e e', Kn.at kn s = some e → Kn.at kn s' = some e' → e.r.b = e'.r.b → s = s'
theorem vals_perm {L : List (Nat × Ent)} {kn : Kn} (h : LRep L kn) (u : UqF kn) (sh : List Int) : L.foldl setE sh = vals kn sh := by
  rw [vals_canon]
  refine foldl_perm h.perm (fun x hx y hy z => ?_) sh
  unfold setE
  by_cases q : x.2.r.b = y.2.r.b
  · have e1 := (h.mem x.1 x.2).mp hx
    have e2 := (h.mem y.1 y.2).mp hy
    have e3 := u _ _ _ _ e1 e2 q
    rw [e3, e2] at e1
    rw [Option.some.inj e1]
  · exact List.set_comm _ _ q
theorem vals_len (kn : Kn) (sh : List Int) : (vals kn sh).length = sh.length := by
  rw [vals_canon]
  generalize canon kn = l
  induction l generalizing sh with
  | nil => rfl
  | cons x l ih =>
    rw [List.foldl_cons, ih]
    exact List.length_set
theorem foldl_len (L : List (Nat × Ent)) (sh : List Int) : (L.foldl setE sh).length = sh.length := by
  induction L generalizing sh with
  | nil => rfl
  | cons x l ih =>
    rw [List.foldl_cons, ih]
    exact List.length_set
theorem le_uniq : ∀ {l m : List Int}, l.Perm m → l.Pairwise (· ≤ ·) → m.Pairwise (· ≤ ·) → l = m
  | [], m, p, _, _ => (List.nil_perm.mp p).symm
  | a :: l, [], p, _, _ => absurd (List.perm_nil.mp p) (by simp)
  | a :: l, b :: m, p, h1, h2 => by
    have e : a = b := by
      have m1 : a ∈ b :: m := p.mem_iff.mp List.mem_cons_self
      have m2 : b ∈ a :: l := p.mem_iff.mpr List.mem_cons_self
      rcases List.mem_cons.mp m1 with z | z
      · exact z
      · rcases List.mem_cons.mp m2 with y | y
        · exact y.symm
        · have q1 := (List.pairwise_cons.mp h1).1 b y
          have q2 := (List.pairwise_cons.mp h2).1 a z
          omega
    subst e
    rw [le_uniq p.cons_inv (List.pairwise_cons.mp h1).2 (List.pairwise_cons.mp h2).2]
def hasD (kn : Kn) (b : Nat) : Bool := (List.range kn.length).any fun s => match Kn.at kn s with
  | some e => e.r.d && e.r.b == b
  | none => false
theorem dirtyB_eq (nb : Nat) (kn : Kn) : dirtyBlocks nb kn = (List.range nb).filter (hasD kn) := rfl
theorem hasD_iff {kn : Kn} {b : Nat} : hasD kn b = true ↔ ∃ s e, Kn.at kn s = some e ∧ e.r.d = true ∧ e.r.b = b := by
  unfold hasD
  rw [List.any_eq_true]
  constructor
  · rintro ⟨s, _, h⟩
    cases q : Kn.at kn s with
    | none => rw [q] at h; cases h
    | some e =>
      rw [q] at h
      obtain ⟨h1, h2⟩ := Bool.and_eq_true_iff.mp h
      exact ⟨s, e, rfl.trans q, h1, beq_iff_eq.mp h2⟩
  · rintro ⟨s, e, h, d, hb⟩
    exact ⟨s, List.mem_range.mpr (at_lt h), by rw [h]; exact Bool.and_eq_true_iff.mpr ⟨d, beq_iff_eq.mpr hb⟩⟩
theorem dirtyB_mem {nb : Nat} {kn : Kn} (h : ∀ s e, Kn.at kn s = some e → e.r.b < nb) {b : Nat} : b ∈ dirtyBlocks nb kn ↔ ∃ s e, Kn.at kn s = some e ∧ e.r.d = true ∧ e.r.b = b := by
  rw [dirtyB_eq, List.mem_filter, hasD_iff, List.mem_range]
  constructor
  · rintro ⟨_, h⟩
    exact h
  · rintro ⟨s, e, h1, h2, h3⟩
    exact ⟨by rw [← h3]; exact h s e h1, s, e, h1, h2, h3⟩
theorem dirtyB_sd (nb : Nat) (kn : Kn) : ((dirtyBlocks nb kn).map fun (b : Nat) => (b : Int)).Pairwise (· ≤ ·) := by
  rw [dirtyB_eq, List.pairwise_map]
  refine List.Pairwise.imp (fun {a b} h => ?_) (List.Pairwise.sublist List.filter_sublist (List.pairwise_lt_range (n := nb)))
  have h : a < b := h
  omega
theorem dirtyB_nd (nb : Nat) (kn : Kn) : (dirtyBlocks nb kn).Nodup := by
  rw [dirtyB_eq]
  exact List.Nodup.sublist List.filter_sublist List.nodup_range
/-- any list of the dirty blocks, sorted -/
theorem sorted_blocks {nb : Nat} {kn : Kn} {l : List Nat} {ns : List Int} (nd : l.Nodup) (hm : ∀ b, b ∈ l ↔ b ∈ dirtyBlocks nb kn) (p : ns.Perm (l.map fun (b : Nat) => (b : Int))) (h : ns.Pairwise (· ≤ ·)) : ns = (dirtyBlocks nb kn).map fun (b : Nat) => (b : Int) :=
  le_uniq (p.trans ((perm_nd nd (dirtyB_nd nb kn) hm).map _)) h (dirtyB_sd nb kn)
def gDB : Nat × Ent → Option Nat := fun x => if x.2.r.d = true then some x.2.r.b else none
theorem gDB_some {x : Nat × Ent} {b : Nat} (h : gDB x = some b) : x.2.r.d = true ∧ x.2.r.b = b := by
  unfold gDB at h
  by_cases d : x.2.r.d = true
  · rw [if_pos d] at h
    exact ⟨d, Option.some.inj h⟩
  · rw [if_neg d] at h
    cases h
theorem blocks_nd {kn : Kn} (u : UqF kn) : ∀ {L : List (Nat × Ent)}, (L.map (·.1)).Nodup → (∀ x ∈ L, Kn.at kn x.1 = some x.2) → (L.filterMap gDB).Nodup
  | [], _, _ => List.nodup_nil
  | x :: l, nd, h => by
    rw [List.map_cons, List.nodup_cons] at nd
    have ih := blocks_nd u nd.2 fun y hy => h y (List.mem_cons_of_mem _ hy)
    cases q : gDB x with
    | none => rw [List.filterMap_cons_none q]; exact ih
    | some b =>
      rw [List.filterMap_cons_some q, List.nodup_cons]
      refine ⟨fun m => ?_, ih⟩
      obtain ⟨y, hy, hg⟩ := List.mem_filterMap.mp m
      have e1 := gDB_some q
      have e2 := gDB_some hg
      have e3 := u _ _ _ _ (h x List.mem_cons_self) (h y (List.mem_cons_of_mem _ hy)) (e1.2.trans e2.2.symm)
      exact nd.1 (List.mem_map.mpr ⟨y, hy, e3.symm⟩)
theorem blocks_mem {nb : Nat} {kn : Kn} (hb : ∀ s e, Kn.at kn s = some e → e.r.b < nb) {L : List (Nat × Ent)} (h : LRep L kn) (b : Nat) : b ∈ L.filterMap gDB ↔ b ∈ dirtyBlocks nb kn := by
  rw [dirtyB_mem hb, List.mem_filterMap]
  constructor
  · rintro ⟨x, hx, hg⟩
    have e := gDB_some hg
    exact ⟨x.1, x.2, (h.mem _ _).mp hx, e.1, e.2⟩
  · rintro ⟨s, e, h1, h2, h3⟩
    exact ⟨(s, e), (h.mem _ _).mpr h1, by unfold gDB; rw [if_pos h2]; exact congrArg some h3⟩
end Kb
set_option Elab.async false
set_option linter.all false
set_option maxRecDepth 100000
set_option maxHeartbeats 4000000
namespace Kb
open PySem PySem.Spec PyProof.Rows L2
/-! ### a statement's end by a named condition -/
def tCut (t u : TS) : TS := fun D σ H => ∃ Post : L2.St → Hp → Prop, t { D with nx := Post } σ H ∧ ∀ σ' H', Post σ' H' → u D σ' H'
theorem pss_cut {X : Cx} {st : PySem.Stmt} {rest : List PySem.Stmt} {t u : TS} (h1 : PS X st t) (h2 : PSs X rest u) : PSs X (st :: rest) (tCut t u) := by
  refine ⟨fun pins s σ H D I h => ?_⟩
  obtain ⟨Post, h, hp⟩ := h
  refine wpAny_execs_cons (thn (h1.run pins s σ H { D with nx := Post } I h) fun f s1 q => ?_)
  cases f with
  | next =>
    obtain ⟨σ', H', I', q⟩ := q
    exact h2.run pins s1 σ' H' D I' (hp σ' H' q)
  | ret v => exact q
  | brk => exact q
  | cont => exact q
/-! ### plain facts -/
def KB (nb : Nat) (kn : Kn) : Prop := ∀ s e, Kn.at kn s = some e → e.r.b < nb
theorem KB.set {nb : Nat} {kn : Kn} {s : Nat} {o : Option Ent} (h : KB nb kn) (ho : ∀ e, o = some e → e.r.b < nb) : KB nb (kn.set s o) := fun j e he => by
  have hj := at_lt he
  rw [set_len] at hj
  by_cases hs : s < kn.length
  · rw [at_set hs] at he
    by_cases z : j = s
    · rw [if_pos z] at he
      exact ho e he
    · rw [if_neg z] at he
      exact h j e he
  · rw [List.set_eq_of_length_le (by omega)] at he
    exact h j e he
theorem KB.begin {nb : Nat} {m : Mem} {b : Nat} (h : KB nb m.kn) : KB nb (begin_ m b).2.kn := fun j e he => by
  obtain ⟨e', h1, h2⟩ := begin_dom he
  rw [← h2]
  exact h j e' h1
theorem KB.clean {nb : Nat} {c : Cfg} {m : Mem} {s : Nat} (h : KB nb m.kn) : KB nb (clean c m s).1.kn := by
  cases q : Kn.at m.kn s with
  | none =>
    unfold Kb.clean
    rw [q]
    exact h
  | some e =>
    rw [clean_at q]
    exact h.set fun e' z => by cases z; exact h s e q
theorem KB.drop {nb : Nat} {m : Mem} {s : Nat} (h : KB nb m.kn) : KB nb (drop m s).kn := h.set fun e z => by cases z
theorem KB.know {nb : Nat} {m : Mem} {s : Nat} {r : Rec} (h : KB nb m.kn) (hr : r.b < nb) : KB nb (know m s r).kn := h.set fun e z => by
  cases z
  unfold knowE
  cases Kn.at m.kn s with
  | none => exact hr
  | some e0 =>
    show (if e0.r.b = r.b then { e0 with r := r } else (⟨r, m.begun - 1, m.begun - 1, 1⟩ : Ent)).r.b < nb
    by_cases q : e0.r.b = r.b
    · rw [if_pos q]; exact hr
    · rw [if_neg q]; exact hr
theorem KB.take {nb : Nat} {c : Cfg} {m : Mem} (h : KB nb m.kn) : KB nb (take c m).2.1.kn := by
  unfold Kb.take
  cases frees m.kn with
  | cons s r => exact h
  | nil =>
    cases clears m.kn with
    | cons s r => exact h.drop
    | nil =>
      cases oldest m.kn with
      | nil => exact h
      | cons p r => exact (h.clean (c := c) (s := p.2)).drop
theorem dropO_len {m : Mem} {o : Option Nat} : (dropO m o).kn.length = m.kn.length := by
  cases o with
  | none => rfl
  | some s => exact drop_len
theorem KB.dropO {nb : Nat} {m : Mem} {o : Option Nat} (h : KB nb m.kn) : KB nb (dropO m o).kn := by
  cases o with
  | none => exact h
  | some s => exact h.drop
theorem word_ok {nb : Nat} {wd : Wd} {m : Mem} {y : Way} {r : Rec} {own tk : Option Nat} (h : KB nb m.kn) (hr : r.b < nb) : (word wd m y r own tk).1.kn.length = m.kn.length ∧ KB nb (word wd m y r own tk).1.kn ∧ (word wd m y r own tk).2.length ≤ 1 := by
  cases wd with
  | slow => exact ⟨rfl, h, Nat.le_refl _⟩
  | sslow => exact ⟨rfl, h, Nat.le_refl _⟩
  | sfast => exact ⟨rfl, h, Nat.le_refl _⟩
  | done => exact ⟨rfl, h, Nat.le_refl _⟩
  | mark => exact ⟨rfl, h, Nat.zero_le _⟩
  | fast =>
    cases tk with
    | none => exact ⟨rfl, h, Nat.zero_le _⟩
    | some t =>
      by_cases hy : y = .arou
      · subst hy
        rw [word_fastA]
        exact ⟨rfl, h, Nat.zero_le _⟩
      · rw [word_fast hy]
        by_cases q : own = some t
        · rw [if_pos q]
          exact ⟨know_len, h.know hr, Nat.le_refl _⟩
        · rw [if_neg q]
          exact ⟨dropO_len.trans know_len, (h.know hr).dropO, Nat.le_refl _⟩
  | free =>
    cases own with
    | none => exact ⟨rfl, h, Nat.zero_le _⟩
    | some o =>
      by_cases q : y = .thr ∨ (y = .back ∧ some o = tk)
      · rw [word_freeN q]
        exact ⟨rfl, h, Nat.zero_le _⟩
      · rw [word_free q]
        exact ⟨drop_len, h.drop, Nat.le_refl _⟩
theorem words_snoc {y : Way} {r : Rec} {own tk : Option Nat} (wd : Wd) : ∀ (l : List Wd) (m : Mem), words y r own tk (l ++ [wd]) m = ((word wd (words y r own tk l m).1 y r own tk).1, (words y r own tk l m).2 ++ (word wd (words y r own tk l m).1 y r own tk).2)
  | [], m => by
    show ((word wd m y r own tk).1, (word wd m y r own tk).2 ++ []) = ((word wd m y r own tk).1, [] ++ (word wd m y r own tk).2)
    rw [List.append_nil, List.nil_append]
  | x :: l, m => by
    have ih := words_snoc wd l (word x m y r own tk).1 (y := y) (r := r) (own := own) (tk := tk)
    show ((words y r own tk (l ++ [wd]) (word x m y r own tk).1).1, (word x m y r own tk).2 ++ (words y r own tk (l ++ [wd]) (word x m y r own tk).1).2) = _
    rw [ih]
    show _ = ((word wd (words y r own tk l (word x m y r own tk).1).1 y r own tk).1, ((word x m y r own tk).2 ++ (words y r own tk l (word x m y r own tk).1).2) ++ (word wd (words y r own tk l (word x m y r own tk).1).1 y r own tk).2)
    rw [List.append_assoc]
theorem words_ok {nb : Nat} {y : Way} {r : Rec} {own tk : Option Nat} (hr : r.b < nb) : ∀ (l : List Wd) (m : Mem), KB nb m.kn → (words y r own tk l m).1.kn.length = m.kn.length ∧ KB nb (words y r own tk l m).1.kn ∧ (words y r own tk l m).2.length ≤ l.length
  | [], m, h => ⟨rfl, h, Nat.le_refl _⟩
  | x :: l, m, h => by
    obtain ⟨a1, a2, a3⟩ := word_ok (wd := x) (y := y) (own := own) (tk := tk) h hr
    obtain ⟨b1, b2, b3⟩ := words_ok hr l (word x m y r own tk).1 a2 (y := y) (own := own) (tk := tk)
    refine ⟨b1.trans a1, b2, ?_⟩
    show ((word x m y r own tk).2 ++ (words y r own tk l (word x m y r own tk).1).2).length ≤ (x :: l).length
    rw [List.length_append, List.length_cons]
    omega
theorem begin_turn {m : Mem} {b : Nat} : (begin_ m b).2.turn = m.turn := by
  cases h : slotOf m.kn b with
  | none => rw [begin_none h]
  | some s => rw [begin_some h]
theorem begin_lt {m : Mem} {b s : Nat} (h : (begin_ m b).1 = some s) : s < m.kn.length := by
  cases q : slotOf m.kn b with
  | none =>
    rw [begin_none q] at h
    cases h
  | some s' =>
    rw [begin_some q] at h
    cases h
    obtain ⟨e, he, _⟩ := slotOf_at q
    exact at_lt he
theorem begin_at {m : Mem} {b s : Nat} (h : (begin_ m b).1 = some s) : ∃ e, Kn.at (begin_ m b).2.kn s = some e := by
  cases q : slotOf m.kn b with
  | none =>
    rw [begin_none q] at h
    cases h
  | some s' =>
    rw [begin_some q] at h ⊢
    cases h
    obtain ⟨e, he, _⟩ := slotOf_at q
    show ∃ e, Kn.at (modE m.kn s _) s = some e
    rw [modE_at he, at_set (at_lt he), if_pos rfl]
    exact ⟨_, rfl⟩
theorem way_back (y : Way) : decide (V.str (wayS y) = V.str "back") = decide (y = .back) := by cases y <;> decide +kernel
theorem oV_isSome (o : Option Nat) : (!decide (oV o = V.non)) = o.isSome := by
  cases o with
  | none => exact nn_none
  | some s => exact nn_some s
theorem rcp_at (c : Cfg) (ok : OkC c) (y : Way) : (c.rcp y).length ≤ 8 ∧ ∀ w ∈ c.rcp y, w ≠ .mark := by
  cases y with
  | thr => exact ⟨ok.o1.len, fun w h z => by subst z; exact absurd (ok.o1.ok _ h) (by decide)⟩
  | back => exact ⟨ok.o2.len, fun w h z => by subst z; exact absurd (ok.o2.ok _ h) (by decide)⟩
  | arou => exact ⟨ok.o3.len, fun w h z => by subst z; exact absurd (ok.o3.ok _ h) (by decide)⟩
/-- what is taken: three ends -/
theorem taken_ok {c : Cfg} (ok : OkC c) {nb : Nat} {m : Mem} {own : Option Nat} (h1 : 1 ≤ m.kn.length) (h : KB nb m.kn) (ho : ∀ s, own = some s → s < m.kn.length) : (taken c m own).2.1.kn.length = m.kn.length ∧ KB nb (taken c m own).2.1.kn ∧ (taken c m own).2.2.length ≤ 8 ∧ ∀ s, (taken c m own).1 = some s → s < m.kn.length := by
  unfold taken
  by_cases q : c.way = .back ∧ (own.elim true (isDirty m.kn)) = true
  · rw [if_pos q]
    exact ⟨take_len, h.take, take_steps ok, fun s z => by cases z; exact take_lt h1⟩
  · rw [if_neg q]
    exact ⟨rfl, h, Nat.zero_le _, ho⟩
theorem taken_no {c : Cfg} {m : Mem} {own : Option Nat} (q : ¬ (c.way = .back ∧ (own.elim true (isDirty m.kn)) = true)) : taken c m own = (own, m, []) := if_neg q
theorem taken_yes {c : Cfg} {m : Mem} {own : Option Nat} (q : c.way = .back ∧ (own.elim true (isDirty m.kn)) = true) : taken c m own = (some (take c m).1, (take c m).2.1, (take c m).2.2) := if_pos q
theorem write_eq (c : Cfg) (m : Mem) (b : Nat) (v : Int) : write c m b v = ((begin_ m b).1.isSome,
    (if c.way = .back then cleanL c (over c (words c.way ⟨b, v, m.turn, decide (c.way = .back)⟩ (begin_ m b).1 (taken c { (begin_ m b).2 with turn := (begin_ m b).2.turn + 1 } (begin_ m b).1).1 (c.rcp c.way) (taken c { (begin_ m b).2 with turn := (begin_ m b).2.turn + 1 } (begin_ m b).1).2.1).1.kn) (words c.way ⟨b, v, m.turn, decide (c.way = .back)⟩ (begin_ m b).1 (taken c { (begin_ m b).2 with turn := (begin_ m b).2.turn + 1 } (begin_ m b).1).1 (c.rcp c.way) (taken c { (begin_ m b).2 with turn := (begin_ m b).2.turn + 1 } (begin_ m b).1).2.1).1 else ((words c.way ⟨b, v, m.turn, decide (c.way = .back)⟩ (begin_ m b).1 (taken c { (begin_ m b).2 with turn := (begin_ m b).2.turn + 1 } (begin_ m b).1).1 (c.rcp c.way) (taken c { (begin_ m b).2 with turn := (begin_ m b).2.turn + 1 } (begin_ m b).1).2.1).1, [])).1,
    (taken c { (begin_ m b).2 with turn := (begin_ m b).2.turn + 1 } (begin_ m b).1).2.2 ++ ((words c.way ⟨b, v, m.turn, decide (c.way = .back)⟩ (begin_ m b).1 (taken c { (begin_ m b).2 with turn := (begin_ m b).2.turn + 1 } (begin_ m b).1).1 (c.rcp c.way) (taken c { (begin_ m b).2 with turn := (begin_ m b).2.turn + 1 } (begin_ m b).1).2.1).2 ++ (if c.way = .back then cleanL c (over c (words c.way ⟨b, v, m.turn, decide (c.way = .back)⟩ (begin_ m b).1 (taken c { (begin_ m b).2 with turn := (begin_ m b).2.turn + 1 } (begin_ m b).1).1 (c.rcp c.way) (taken c { (begin_ m b).2 with turn := (begin_ m b).2.turn + 1 } (begin_ m b).1).2.1).1.kn) (words c.way ⟨b, v, m.turn, decide (c.way = .back)⟩ (begin_ m b).1 (taken c { (begin_ m b).2 with turn := (begin_ m b).2.turn + 1 } (begin_ m b).1).1 (c.rcp c.way) (taken c { (begin_ m b).2 with turn := (begin_ m b).2.turn + 1 } (begin_ m b).1).2.1).1 else ((words c.way ⟨b, v, m.turn, decide (c.way = .back)⟩ (begin_ m b).1 (taken c { (begin_ m b).2 with turn := (begin_ m b).2.turn + 1 } (begin_ m b).1).1 (c.rcp c.way) (taken c { (begin_ m b).2 with turn := (begin_ m b).2.turn + 1 } (begin_ m b).1).2.1).1, [])).2)) := rfl
section
variable {P : Program} {w : World} {K : PySem.W.Frag} {mg : Str → Option Value} {base : Heap}
def sp_write (K : PySem.W.Frag) : Sp := Sp3 fun a b d H Q => ∃ (c : Cfg) (ρ : Ro) (p : Addr) (m : Mem) (D : Ds) (n nb : Nat) (v : Int), a = .ref p ∧ b = .int (n : Int) ∧ d = .int v ∧ PairAt K c ρ H p m D true ∧ OkC c ∧ WF nb m D ∧ n < nb ∧ 0 ≤ v ∧ v ≤ 999 ∧ Rm nb m.kn.length 100 D ∧
  ∀ ρ' H', PairAt K c ρ' H' p (write c m n v).2.1 (run (write c m n v).2.2 D) true → Mv SP ρ H ρ' H' → Q (.bl (write c m n v).1) H'
theorem sc_P_write : FnScope ["self", "block", "value", "own", "turn", "way", "taken", "word"] ["self", "block", "value"] (defScope s_P_write) := ⟨rfl, rfl, rfl, by decide +kernel, rfl, by decide +kernel, by decide +kernel⟩
theorem m_P_write (T : Txt K mg) : C8.Met P w K mg base 8 (He.ga K "Pair") "write" (sp_write K) [] := by
  refine met_of T.F_P_write T.cl_Pair T.mt_Pair_write sc_P_write len3 (fun _ _ _ _ _ _ us hl => match us, hl with | [_, _, _], _ => rfl) (fun cdv A outer s H vs Q E hr h => ?_)
  obtain ⟨a, b, d, rfl, c, ρ, p, m, D, n, nb, v, rfl, rfl, rfl, ⟨A, h⟩, ok, wf, hn, v0, v9, rm, k⟩ := h
  obtain ⟨dn, ho⟩ := h.obj
  have l1 := rm.l1
  have l2 := rm.l2
  rw [write_eq] at k
  refine ⟨_, pss_cons (ps_expr (C8.pe_mt0 (m_P_need_on T) hr (by decide) (pv 0)))
      (pss_cons (ps_expr (C8.pe_mt (m_P_check_block T) hr (by decide) (pv 0) (pa_cons (pv 1) pa_nil)))
      (pss_cons (ps_if (pt_not (pt_val (C8.pe_c (c_P_is_int_in T) hr (by decide) rfl (pa_cons (pv 2) (pa_cons (pe_int) (pa_cons (C8.pe_gc rfl (gci T.i_MAX_VALUE)) pa_nil)))))) (pss_one (ps_never)) (pss_nil))
      (pss_cons (ps_par (i := 3) (j := 4) (by rfl) sc_P_write.nd rfl rfl (by decide) rfl rfl (pa_cons (C8.pe_mt (m_P_begin T) hr (by decide) (pv 0) (pa_cons (pv 1) pa_nil)) (pa_cons (pe_fld (pv 0) rfl) pa_nil)) (by rfl))
      (pss_cons (ps_fldaug (pv 0) (pe_int) in_add)
      (pss_cons (ps_set (i := 5) sc_P_write.nd rfl (.inl rfl) (pe_ifExp (PW.pt (pw_and (pt_cmpR op_isN (pe_fld (pv 0) rfl) (pe_non) (nomark _)) (pw_and1 (pt_cmpR op_eq (pe_pr (p_Rr_writing T) hr (by decide) (pe_fld (pv 0) rfl)) (C8.pe_gc rfl (gcs T.s_BACK)) (nomark _))))) (C8.pe_gc rfl (gcs T.s_THROUGH)) (pe_pr (p_Rr_writing T) hr (by decide) (pe_fld (pv 0) rfl))))
      (pss_cons (ps_set (i := 6) sc_P_write.nd rfl (.inl rfl) (pv 3))
      (pss_cut (ps_if (PW.pt (pw_and (pt_cmpR op_eq (pv 5) (C8.pe_gc rfl (gcs T.s_BACK)) (nomark _)) (pw_and1 (PW.pt (pw_or (pt_cmpR op_isN (pv 3) (pe_non) (nomark _)) (pw_or1 (pt_val (pe_ix (r := rIxT K) ix_tup (pe_ix (r := rIxL K) ix_list (pe_dget (hu_of hr) (pe_fld (pv 0) rfl) (pv 3) (fun _ _ => rfl)) (pe_int) (fun _ _ => rfl)) (pe_int) (fun _ _ => rfl))))))))) (pss_one (ps_set (i := 6) sc_P_write.nd rfl (.inl rfl) (C8.pe_mt0 (m_P_take T) hr (by decide) (pv 0)))) (pss_nil))
      (pss_cons (ps_for PassesOwn.never rfl (pi_tup (C8.pe_c (c_P_recipe_of T) hr (by decide) rfl (pa_cons (pe_fld (pv 0) rfl) (pa_cons (pv 5) pa_nil)))) (pg_name (i := 7) sc_P_write.nd rfl (.inl rfl)) (pss_one (ps_expr (C8.pe_mt (m_P_carry_out T) hr (by decide) (pv 0) (pa_cons (pv 7) (pa_cons (pv 5) (pa_cons (pe_tup (pa_cons (pv 1) (pa_cons (pv 2) (pa_cons (pv 4) (pa_cons (pe_cmpR op_eq (pv 5) (C8.pe_gc rfl (gcs T.s_BACK)) (nomark _)) pa_nil))))) (pa_cons (pv 3) (pa_cons (pv 6) pa_nil)))))))))
      (pss_cut (ps_if (pt_cmpR op_eq (pv 5) (C8.pe_gc rfl (gcs T.s_BACK)) (nomark _)) (pss_one (ps_expr (C8.pe_mt0 (m_P_keep_bound T) hr (by decide) (pv 0)))) (pss_nil))
      (pss_cons (ps_fld (pv 0) (pe_bl) rfl)
      (pss_one (ps_ret (pe_cmpR op_notN (pv 3) (pe_non) (nomark _)))))))))))))), ?_⟩
  refine ⟨_, rfl, p, A.dx, _, rfl, ho, rfl, _, rfl, c, ρ, p, m, D, rfl, ⟨A, h⟩, ?_⟩
  refine ⟨_, rfl, p, A.dx, _, rfl, ho, rfl, _, rfl, _, _, rfl, c, ρ, p, m, D, true, n, rfl, rfl, ⟨A, h⟩, by omega, ?_⟩
  refine ⟨_, rfl, _, _, _, rfl, _, _, _, rfl, rfl, rfl, _, rfl, ite_not (in_true v0 v9) ?_⟩
  refine ⟨_, rfl, p, A.dx, _, rfl, ho, rfl, _, rfl, _, _, rfl, c, ρ, p, m, D, true, n, rfl, rfl, ⟨A, h⟩, wf.uq, fun ρ1 H1 ⟨A1, g1⟩ m1 => ?_⟩
  obtain ⟨dn1, ho1⟩ := g1.obj
  have hkb : KB nb (begin_ m n).2.kn := KB.begin wf.kb
  have hbl := begin_len (m := m) (b := n)
  have hbt := begin_turn (m := m) (b := n)
  have hown := fun s (z : (begin_ m n).1 = some s) => begin_lt z
  have hownE := fun s (z : (begin_ m n).1 = some s) => begin_at z
  generalize (begin_ m n).1 = own at *
  generalize (begin_ m n).2 = mb at *
  refine ⟨_, rfl, p, _, A1.dx, _, _, rfl, ho1, T.cl_Pair, T.na_Pair_turn, rfl, _, _, rfl, ?_⟩
  refine ⟨_, rfl, p, _, A1.dx, _, _, rfl, ho1, T.cl_Pair, T.na_Pair_turn, rfl, _, _, rfl, rfl, A1.dx, _, ho1, (show (13 : Nat) < 1000 by decide), ?_⟩
  obtain ⟨g2, m2⟩ := g1.obj' (mb.turn + 1) mb.begun mb.hits true dn1
  have m12 := m1.trans (m2.mono (s1_sp (by decide) (by decide)))
  rw [← hbt] at k
  obtain ⟨mt, hmt⟩ : ∃ mt, mt = ({ mb with turn := mb.turn + 1 } : Mem) := ⟨_, rfl⟩
  rw [← hmt] at k
  have hmtk : mt.kn = mb.kn := by rw [hmt]
  have g2 : PairS K c ρ1 (upd H1 p (.ins (He.ga K "Pair") A1.dx (pairF A1 (mb.turn + 1) mb.begun mb.hits true dn1))) p A1 mt D true := by rw [hmt]; exact g2
  have ho2 : upd H1 p (.ins (He.ga K "Pair") A1.dx (pairF A1 (mb.turn + 1) mb.begun mb.hits true dn1)) p = some (.ins (He.ga K "Pair") A1.dx (pairF A1 (mb.turn + 1) mb.begun mb.hits true dn1)) := upd_same
  obtain ⟨dxr, tr, hr1, hr2, hr3⟩ := g2.rul
  refine ⟨_, rfl, p, _, A1.dx, _, _, rfl, ho2, T.cl_Pair, T.na_Pair_fast, rfl, rfl, _, rfl, ite_ff (by simp) ?_⟩
  refine ⟨_, rfl, p, _, A1.dx, _, _, rfl, ho2, T.cl_Pair, T.na_Pair_rule, rfl, A1.ar, dxr, _, rfl, hr1, _, rfl, c, ρ1, A1.ar, .str (wayS c.way), rfl, g2.rul, rfl, ?_⟩
  refine ⟨_, rfl, ?_⟩
  have hkb2 : KB nb mt.kn := by rw [hmtk]; exact hkb
  have hn2 : 1 ≤ mt.kn.length := by rw [hmtk, hbl]; exact wf.n1
  have hown2 : ∀ s, own = some s → s < mt.kn.length := fun s z => by rw [hmtk, hbl]; exact hown s z
  have rm2 : Rm nb mt.kn.length 100 D := by rw [hmtk, hbl]; exact rm
  obtain ⟨t1, t2, t3, t4⟩ := taken_ok ok hn2 hkb2 hown2
  generalize htk : taken c mt own = tk at k t1 t2 t3 t4
  -- own, what is taken
  refine ⟨fun σ' H' => ∃ ρ' x, σ' = [some (.ref p), some (.int (n : Int)), some (.int v), some (oV own), some (.int mb.turn), some (.str (wayS c.way)), some (oV tk.1), x] ∧ PairAt K c ρ' H' p tk.2.1 (run tk.2.2 D) true ∧ Mv SP ρ H ρ' H', ?_, ?_⟩
  · refine ⟨_, rfl, rfl, _, rfl, ?_⟩
    by_cases hw : c.way = .back
    · refine ite_tt (by rw [way_back]; exact decide_eq_true hw) ⟨_, rfl, rfl, _, rfl, ?_⟩
      have yes : (own.elim true (isDirty mt.kn)) = true → ∀ (ρ4 : Ro) (H4 : Hp), PairAt K c ρ4 H4 p (take c mt).2.1 (run (take c mt).2.2 D) true → Mv SP ρ1 (upd H1 p (.ins (He.ga K "Pair") A1.dx (pairF A1 (mb.turn + 1) mb.begun mb.hits true dn1))) ρ4 H4 → ∃ ρ' x, [some (.ref p), some (.int (n : Int)), some (.int v), some (oV own), some (.int mb.turn), some (.str (wayS c.way)), some (.int ((take c mt).1 : Nat)), none] = [some (.ref p), some (.int (n : Int)), some (.int v), some (oV own), some (.int mb.turn), some (.str (wayS c.way)), some (oV tk.1), x] ∧ PairAt K c ρ' H4 p tk.2.1 (run tk.2.2 D) true ∧ Mv SP ρ H ρ' H4 := fun hy ρ4 H4 g4 m4 => by
        rw [← htk, taken_yes ⟨hw, hy⟩]
        exact ⟨ρ4, _, rfl, g4, m12.trans m4⟩
      cases own with
      | none =>
        refine ite_tt (by simp [oV]) (iteT ?_)
        exact ⟨_, rfl, p, A1.dx, _, rfl, ho2, rfl, _, rfl, c, ρ1, p, mt, D, true, nb, rfl, ⟨A1, g2⟩, ok, hn2, hkb2, rm2.less (by decide), fun ρ4 H4 g4 m4 => yes rfl ρ4 H4 g4 m4⟩
      | some s =>
        obtain ⟨e, he⟩ := hownE s rfl
        rw [← hmtk] at he
        obtain ⟨hk8, ea, L, hk⟩ := g2.kn
        obtain ⟨rr, t, he1, he2⟩ := hk.ent s e he
        have dg := hk.dget (s := s)
        rw [he] at dg
        refine ite_ff (by simp [oV]) ⟨_, rfl, p, _, A1.dx, _, _, rfl, ho2, T.cl_Pair, T.na_Pair_slots, rfl, _, rfl, A1.ak, _, rfl, dg, ea s, _, _, _, rfl, rfl, SqL.of he1, rfl, t, _, _, _, rfl, rfl, SqT.of he2, rfl, _, rfl, ?_⟩
        have hdd : isDirty mt.kn s = e.r.d := by
          unfold isDirty
          rw [he]
        cases hd : e.r.d with
        | true =>
          refine iteT ?_
          exact ⟨_, rfl, p, A1.dx, _, rfl, ho2, rfl, _, rfl, c, ρ1, p, mt, D, true, nb, rfl, ⟨A1, g2⟩, ok, hn2, hkb2, rm2.less (by decide), fun ρ4 H4 g4 m4 => yes (hdd.trans hd) ρ4 H4 g4 m4⟩
        | false =>
          have no : taken c mt (some s) = (some s, mt, []) := taken_no (fun z => by have z2 : isDirty mt.kn s = true := z.2; rw [hdd, hd] at z2; cases z2)
          refine iteF ⟨ρ1, none, ?_, ?_, m12⟩
          · rw [← htk, no]
            rfl
          · rw [← htk, no]
            exact ⟨A1, g2⟩
    · refine ite_ff (by rw [way_back]; exact decide_eq_false hw) (iteF ⟨ρ1, _, by rw [← htk, taken_no (fun z => hw z.1)] <;> rfl, ?_⟩)
      rw [← htk, taken_no (fun z => hw z.1)]
      exact ⟨⟨A1, g2⟩, m12⟩
  · rintro σ3 H3 ⟨ρ3, x, rfl, ⟨A3, g3⟩, m3⟩
    obtain ⟨dn3, ho3⟩ := g3.obj
    obtain ⟨rl, rmk⟩ := rcp_at c ok c.way
    have hrb : (⟨n, v, mb.turn, decide (c.way = .back)⟩ : Rec).b < nb := hn
    generalize hrc : (⟨n, v, mb.turn, decide (c.way = .back)⟩ : Rec) = rc at k hrb
    obtain ⟨z1, z2, z3⟩ := words_ok (y := c.way) (own := own) (tk := tk.1) hrb (c.rcp c.way) tk.2.1 t2
    generalize hz : words c.way rc own tk.1 (c.rcp c.way) tk.2.1 = z at k z1 z2 z3
    refine ⟨_, rfl, p, _, A3.dx, _, _, rfl, ho3, T.cl_Pair, T.na_Pair_order, rfl, _, rfl, _, _, rfl, c, ρ3, A3.ao, c.way, rfl, rfl, g3.ord, fun tc htc => ⟨tc, rfl, ⟨_, SqT.of htc⟩, ?_⟩⟩
    refine for_it (walk_tup (xs := wdV (c.rcp c.way))) (fun i σ H' => ∃ x ρ', σ = [some (.ref p), some (.int (n : Int)), some (.int v), some (oV own), some (.int mb.turn), some (.str (wayS c.way)), some (oV tk.1), x] ∧ Mv SP ρ3 H3 ρ' H' ∧ PairAt K c ρ' H' p (words c.way rc own tk.1 ((c.rcp c.way).take i) tk.2.1).1 (run (words c.way rc own tk.1 ((c.rcp c.way).take i) tk.2.1).2 (run tk.2.2 D)) true)
      ⟨_, ρ3, rfl, Mv.refl, ⟨A3, g3⟩⟩ (fun i σ H' _ ⟨_, _, _, mm, _⟩ => SqT.of (mm.tups _ _ htc)) (fun i x σ Hz H4 hi ⟨x0, ρ4, e0, m4, g4⟩ y => ?_) (fun σ H4 ⟨x0, ρ4, e0, m4, g4⟩ => ?_)
    · obtain ⟨rfl, hx⟩ := y
      subst e0
      obtain ⟨wd, hwd, rfl⟩ := wdV_at hx
      have hil := (List.getElem?_eq_some_iff.mp hwd).1
      obtain ⟨A4, gg4⟩ := g4
      obtain ⟨dn4, ho4⟩ := gg4.obj
      obtain ⟨y1, y2, y3⟩ := words_ok (y := c.way) (own := own) (tk := tk.1) hrb ((c.rcp c.way).take i) tk.2.1 t2
      rw [List.length_take] at y3
      refine ⟨_, rfl, p, A4.dx, _, rfl, ho4, rfl, _, rfl, _, rfl, _, rfl, _, rfl, _, rfl, _, rfl, rfl, (show (4 : Nat) ≤ sizeLine by decide), fun q hq => ⟨_, rfl, _, rfl, ?_⟩⟩
      have m5 : Mv S0 ρ4 H4 _ _ := Mv.refl.new hq 0 (.tup [.int (n : Int), .int v, .int mb.turn, .bl (decide (V.str (wayS c.way) = V.str "back"))])
      have htup : upd H4 q (.tup [.int (n : Int), .int v, .int mb.turn, .bl (decide (V.str (wayS c.way) = V.str "back"))]) q = some (.tup (recV rc)) := by
        rw [upd_same, ← hrc, way_back]
        rfl
      refine ⟨_, _, _, _, _, _, rfl, c, _, p, _, _, true, nb, wd, c.way, rc, own, tk.1, rfl, rfl, rfl, ⟨q, rfl, htup⟩, rfl, rfl, ⟨A4, gg4.mv0 m5⟩, rmk wd (List.mem_of_getElem? hwd), hrb, fun s hs => by rw [y1, t1]; exact hown2 s hs, fun s hs => by rw [y1, t1]; exact t4 s hs, ?_, fun ρ6 H6 g6 m6 => ⟨_, ρ6, rfl, m4.trans ((m5.mono s0_sp).trans m6), ?_⟩⟩
      · rw [y1, t1]
        exact (rm2.r (M := 92) (by omega)).r (by omega)
      · have et : (c.rcp c.way).take (i + 1) = (c.rcp c.way).take i ++ [wd] := by
          rw [List.take_succ, hwd]
          rfl
        rw [et, words_snoc, run_app]
        exact g6
    · subst e0
      have et : (c.rcp c.way).take (wdV (c.rcp c.way)).length = c.rcp c.way := by
        unfold wdV
        rw [List.length_map, List.take_length]
      rw [et, hz] at g4
      refine ⟨fun σ' H' => ∃ ρ' x, σ' = [some (.ref p), some (.int (n : Int)), some (.int v), some (oV own), some (.int mb.turn), some (.str (wayS c.way)), some (oV tk.1), x] ∧ PairAt K c ρ' H' p (if c.way = .back then cleanL c (over c z.1.kn) z.1 else (z.1, [])).1 (run (if c.way = .back then cleanL c (over c z.1.kn) z.1 else (z.1, [])).2 (run z.2 (run tk.2.2 D))) true ∧ Mv SP ρ H ρ' H', ?_, ?_⟩
      · refine ⟨_, rfl, rfl, _, rfl, ?_⟩
        by_cases hw : c.way = .back
        · refine ite_tt (by rw [way_back]; exact decide_eq_true hw) ?_
          obtain ⟨A4, gg4⟩ := g4
          obtain ⟨dn4, ho4⟩ := gg4.obj
          refine ⟨_, rfl, p, A4.dx, _, rfl, ho4, rfl, _, rfl, c, ρ4, p, z.1, _, true, nb, rfl, ⟨A4, gg4⟩, ok, z2, ?_, fun ρ5 H5 g5 m5 => ⟨ρ5, _, rfl, ?_, m3.trans (m4.trans m5)⟩⟩
          · rw [z1, t1]
            exact (rm2.r (M := 92) (by omega)).r (by omega)
          · rw [if_pos hw]
            exact g5
        · refine ite_ff (by rw [way_back]; exact decide_eq_false hw) ⟨ρ4, _, rfl, ?_, m3.trans m4⟩
          rw [if_neg hw]
          exact g4
      · rintro σ5 H5 ⟨ρ5, x5, rfl, ⟨A5, g5⟩, m5⟩
        obtain ⟨dn5, ho5⟩ := g5.obj
        refine ⟨_, rfl, p, _, A5.dx, _, rfl, ho5, T.cl_Pair, T.na_Pair_is_done, (show (13 : Nat) < 1000 by decide), ?_⟩
        generalize (if c.way = .back then cleanL c (over c z.1.kn) z.1 else (z.1, [])) = yy at *
        obtain ⟨g6, m6⟩ := g5.obj' yy.1.turn yy.1.begun yy.1.hits true (.bl false)
        refine ⟨_, rfl, rfl, ?_⟩
        rw [oV_isSome]
        rw [run_app, run_app] at k
        exact k _ _ ⟨A5, g6⟩ (m5.trans (m6.mono (s1_sp (by decide) (by decide))))
end
end Kb
set_option Elab.async false
set_option linter.all false
set_option maxRecDepth 100000
set_option maxHeartbeats 4000000
namespace Kb
open PySem PySem.Spec PyProof.Rows L2
theorem Mv.lock2 {S : Nat → Prop} {ρ ρ1 : Ro} {H H1 : Hp} {d : Addr} {u : HO} (m : Mv S ρ H ρ1 H1) (hd : H d = some u) (f : HO) : Mv S ρ (upd H d f) ρ1 (upd H1 d f) where
  keep := fun a o h n => by
    by_cases z : a = d
    · rw [z, upd_same] at h ⊢
      exact h
    · rw [upd_ne z] at h ⊢
      exact m.keep a o h n
  role := fun a o h => by
    by_cases z : a = d
    · rw [z]
      exact m.role d u hd
    · rw [upd_ne z] at h
      exact m.role a o h
  tups := fun a xs h => by
    by_cases z : a = d
    · rw [z, upd_same] at h ⊢
      exact h
    · rw [upd_ne z] at h ⊢
      exact m.tups a xs h
  dom := fun a h => by
    by_cases z : a = d
    · rw [z, upd_same] at h
      cases h
    · rw [upd_ne z] at h ⊢
      exact m.dom a h
theorem fieldK {X : Cx} {K : PySem.W.Frag} {e : PySem.Expr} {ta : TE} {f : Str} {pos : Pos} (hK : X.K = K) (he : PE X e ta) (hb : attributeBase e f X.env (eval e X.env) = eval e X.env) : PE X (.Attribute e f pos) (tFld K ta f) := by
  subst hK
  exact pe_fld he hb
section
variable {P : Program} {w : World} {K : PySem.W.Frag} {mg : Str → Option Value} {base : Heap}
def sp_cut (K : PySem.W.Frag) : Sp := Sp1 fun a H Q => ∃ (c : Cfg) (ρ : Ro) (p : Addr) (m : Mem) (D : Ds), a = .ref p ∧ PairAt K c ρ H p m D true ∧
  ∀ (ρ' : Ro) (H' : Hp), PairAt K c ρ' H' p { m with kn := nones m.kn.length } D false → Mv SP ρ H ρ' H' → Q .non H'
theorem sc_P_cut : FnScope ["self"] ["self"] (defScope s_P_cut) := ⟨rfl, rfl, rfl, by decide +kernel, rfl, by decide +kernel, by decide +kernel⟩
theorem m_P_cut (T : Txt K mg) : C8.Met P w K mg base 2 (He.ga K "Pair") "cut" (sp_cut K) [] := by
  refine met_of T.F_P_cut T.cl_Pair T.mt_Pair_cut sc_P_cut len1 (fun _ _ _ _ _ _ us hl => match us, hl with | [_], _ => rfl) (fun cdv A outer s H vs Q E hr h => ?_)
  obtain ⟨a, rfl, c, ρ, p, m, D, rfl, ⟨A, h⟩, k⟩ := h
  obtain ⟨dn, ho⟩ := h.obj
  refine ⟨_, pss_cons (ps_expr (C8.pe_mt0 (m_P_need_on T) hr (by decide) (pv 0)))
      (pss_one (ps_expr (C8.pe_mt0 (m_P_turn_off T) hr (by decide) (pv 0)))), ?_⟩
  refine ⟨_, rfl, p, A.dx, _, rfl, ho, rfl, _, rfl, c, ρ, p, m, D, rfl, ⟨A, h⟩, ?_⟩
  exact ⟨_, rfl, p, A.dx, _, rfl, ho, rfl, _, rfl, c, ρ, p, m, D, true, rfl, ⟨A, h⟩, fun ρ' H' g m => k _ _ g m⟩
def sp_block_values (K : PySem.W.Frag) : Sp := Sp1 fun a H Q => ∃ (c : Cfg) (ρ : Ro) (p : Addr) (m : Mem) (D : Ds) (nb : Nat), a = .ref p ∧ PairAt K c ρ H p m D true ∧ Uq m.kn ∧ KB nb m.kn ∧ D.slow.sh.length = nb ∧
  ∀ (ρ' : Ro) (H' : Hp) (q : Addr), Mv S0 ρ H ρ' H' → ρ' q = 0 → H' q = some (.lst ((vals m.kn D.slow.sh).map V.int)) → Q (.ref q) H'
theorem sc_P_block_values : FnScope ["self", "found", "entry"] ["self"] (defScope s_P_block_values) := ⟨rfl, rfl, rfl, by decide +kernel, rfl, by decide +kernel, by decide +kernel⟩
theorem p_P_block_values (T : Txt K mg) : Pro P w K mg base 2 (He.ga K "Pair") "block_values" (sp_block_values K) := by
  refine pro_of T.F_P_block_values T.cl_Pair T.pr_Pair_block_values sc_P_block_values len1 (fun _ _ _ _ _ _ us hl => match us, hl with | [_], _ => rfl) (fun cdv A outer s H vs Q E hr h => ?_)
  obtain ⟨a, rfl, c, ρ, p, m, D, nb, rfl, ⟨A, h⟩, u, hb, hl, k⟩ := h
  obtain ⟨dn, ho⟩ := h.obj
  obtain ⟨dx, Lf, hd, rd, hfk⟩ := h.slow
  obtain ⟨vs, hv1, q1⟩ := hfk.sh
  cases ints_of q1
  obtain ⟨hk8, ea, L, hk⟩ := h.kn
  have npk : p ≠ A.ak := ne_of ho hk.dict (by intro z; cases z)
  have hlen := hk.rep.len
  refine ⟨_, pss_cons (ps_expr (C8.pe_mt0 (m_P_need_on T) hr (by decide) (pv 0)))
      (pss_cons (ps_set (i := 1) sc_P_block_values.nd rfl (.inl rfl) (pe_callTy call_list_of (by rfl) T.f_list (by decide +kernel) (pa_cons (pe_fld (pe_fld (pv 0) rfl) rfl) pa_nil)))
      (pss_cons (ps_lock (ps_for PassesOwn.never rfl (pi_values (pe_fld (pv 0) rfl)) (pg_name (i := 2) sc_P_block_values.nd rfl (.inl rfl)) (pss_one (ps_asg (pe_ix (r := rIxT K) ix_tup (pe_ix (r := rIxL K) ix_list (pv 2) (pe_int) (fun _ _ => rfl)) (pe_int) (fun _ _ => rfl)) (pg_sub (pv 1) (pe_ix (r := rIxT K) ix_tup (pe_ix (r := rIxL K) ix_list (pv 2) (pe_int) (fun _ _ => rfl)) (pe_int) (fun _ _ => rfl)) set_list)))))
      (pss_one (ps_ret (pv 1))))), ?_⟩
  refine ⟨_, rfl, p, A.dx, _, rfl, ho, rfl, _, rfl, c, ρ, p, m, D, rfl, ⟨A, h⟩, ?_⟩
  refine ⟨_, rfl, p, _, A.dx, _, _, rfl, ho, T.cl_Pair, T.na_Pair_slow, rfl, A.ds, _, dx, _, _, rfl, hd, T.cl_Disk, T.na_Disk_shown, rfl, _, _, rfl, .inl (SqL.of hv1), fun R hR => ?_⟩
  have m0 : Mv S0 ρ H _ _ := Mv.refl.new hR 0 (.lst (D.slow.sh.map V.int))
  have hk0 := hk.mv0 m0
  have ho0 := m0.at0 ho
  have nRk : R ≠ A.ak := fun z => by rw [z, hk.dict] at hR; cases hR
  refine ⟨A.ak, _, hk0.dict, trivial, fun od => ?_⟩
  have hol := (upd_ne (o := .frz od (.dK (kvs ea L))) npk).trans ho0
  refine ⟨_, rfl, p, _, A.dx, _, _, rfl, hol, T.cl_Pair, T.na_Pair_slots, rfl, A.ak, od, _, rfl, upd_same, ?_⟩
  have mL := m0.lock2 hk.dict (.frz od (.dK (kvs ea L)))
  have hRL : upd H A.ak (.frz od (.dK (kvs ea L))) R = none := (upd_ne nRk).trans hR
  refine for_it walk_values (fun i σ H' => ∃ x ρ', σ = [some (.ref p), some (.ref R), x] ∧ Mv S0 ρ (upd H A.ak (.frz od (.dK (kvs ea L)))) ρ' H' ∧ H' R = some (.lst (((L.take i).foldl setE D.slow.sh).map V.int)) ∧ ρ' R = 0)
    ⟨_, _, rfl, mL, (upd_ne nRk).trans upd_same, rs_same⟩ (fun i σ H' _ ⟨_, _, _, mm, _, _⟩ => mm.at0 upd_same) (fun i x σ Hz H1 hi ⟨x0, ρ1, e0, m1, hR1, r1⟩ y => ?_) (fun σ H1 ⟨x0, ρ1, e0, m1, hR1, r1⟩ => ?_)
  · obtain ⟨rfl, ky, hkv⟩ := y
    subst e0
    obtain ⟨s, e, hLi, hkv2⟩ := kvs_at hkv
    cases hkv2
    obtain ⟨hat, t, h1', h2'⟩ := lk_ent hk hLi m1
    have hbl : e.r.b < ((L.take i).foldl setE D.slow.sh).length := by rw [foldl_len, hl]; exact hb s e hat
    refine ⟨_, rfl, ea s, _, _, _, rfl, rfl, SqL.of h1', rfl, t, _, _, _, rfl, rfl, SqT.of h2', rfl, _, rfl, _, rfl, ea s, _, _, _, rfl, rfl, SqL.of h1', rfl, t, _, _, _, rfl, rfl, SqT.of h2', rfl, R, _, _, e.r.b, rfl, rfl, hR1, ixn (by rw [List.length_map]; exact hbl), ?_⟩
    have e1 : (((L.take i).foldl setE D.slow.sh).map V.int).set e.r.b (.int e.r.v) = ((L.take (i + 1)).foldl setE D.slow.sh).map V.int := by
      rw [List.take_succ, hLi, List.foldl_append, ← List.map_set]
      rfl
    rw [e1]
    exact ⟨_, ρ1, rfl, m1.wr hR1 (fun xs z => by cases z) (.inl hRL) _, upd_same, r1⟩
  · subst e0
    rw [kvs_len, List.take_length, vals_perm hk.rep u] at hR1
    obtain ⟨g1, g2⟩ := Mv.unlk hk.dict m1
    exact ⟨g1, _, rfl, k ρ1 _ R g2 r1 ((upd_ne nRk).trans hR1)⟩
def sp_dirty (K : PySem.W.Frag) : Sp := Sp1 fun a H Q => ∃ (c : Cfg) (ρ : Ro) (p : Addr) (m : Mem) (D : Ds) (nb : Nat), a = .ref p ∧ PairAt K c ρ H p m D true ∧ Uq m.kn ∧ KB nb m.kn ∧
  ∀ (ρ' : Ro) (H' : Hp) (q : Addr), Mv S0 ρ H ρ' H' → ρ' q = 0 → H' q = some (.lst (natV (dirtyBlocks nb m.kn))) → Q (.ref q) H'
theorem sc_P_dirty : FnScope ["self", "entry"] ["self"] (defScope s_P_dirty) := ⟨rfl, rfl, rfl, by decide +kernel, rfl, by decide +kernel, by decide +kernel⟩
theorem p_P_dirty (T : Txt K mg) : Pro P w K mg base 2 (He.ga K "Pair") "dirty" (sp_dirty K) := by
  refine pro_of T.F_P_dirty T.cl_Pair T.pr_Pair_dirty sc_P_dirty len1 (fun _ _ _ _ _ _ us hl => match us, hl with | [_], _ => rfl) (fun cdv A outer s H vs Q E hr h => ?_)
  obtain ⟨a, rfl, c, ρ, p, m, D, nb, rfl, ⟨A, h⟩, u, hb, k⟩ := h
  obtain ⟨dn, ho⟩ := h.obj
  obtain ⟨hk8, ea, L, hk⟩ := h.kn
  have npk : p ≠ A.ak := ne_of ho hk.dict (by intro z; cases z)
  have hlen := hk.rep.len
  refine ⟨_, pss_cons (ps_expr (C8.pe_mt0 (m_P_need_on T) hr (by decide) (pv 0)))
      (pss_one (ps_ret (pe_callB cr_sortedI (by rfl) T.f_sorted (by decide +kernel) (pa_cons (pe_lock (pe_lc (own := [("entry", 1)]) (by rfl) sc_P_dirty.nd (g := gName 1) (pi_values (pe_fld (pv 0) rfl)) (blkOk_by (own := [("entry", 1)]) (N := ["self", "entry"]) (sc := defScope s_P_dirty) (by decide +kernel)) (fun _ _ _ _ _ => pg_name (i := 1) sc_P_dirty.nd rfl (.inl rfl) (.inr rfl)) (fun _ _ _ _ _ => pts_one (pt_val (pe_ix (r := rIxT K) ix_tup (pe_ix (r := rIxL K) ix_list (pv 1) (pe_int) (fun _ _ => rfl)) (pe_int) (fun _ _ => rfl)))) (fun _ _ _ _ _ => pe_ix (r := rIxT K) ix_tup (pe_ix (r := rIxL K) ix_list (pv 1) (pe_int) (fun _ _ => rfl)) (pe_int) (fun _ _ => rfl)))) pa_nil)))), ?_⟩
  refine ⟨_, rfl, p, A.dx, _, rfl, ho, rfl, _, rfl, c, ρ, p, m, D, rfl, ⟨A, h⟩, ?_⟩
  refine ⟨A.ak, _, hk.dict, trivial, fun od => ?_⟩
  have hol := (upd_ne (o := .frz od (.dK (kvs ea L))) npk).trans ho
  refine ⟨_, rfl, p, _, A.dx, _, _, rfl, hol, T.cl_Pair, T.na_Pair_slots, rfl, A.ak, od, _, rfl, upd_same, fun D' hD => ?_⟩
  refine lc_gen (ρ := ρ) walk_values (by rw [kvs_len]; omega) cN (fun i => L[i]?.bind gDB) (fun ρ' H' m => m.at0 upd_same) (fun i x ρ1 H1 H2 hi m1 y Ny Nn hNy hNn => ?_) hD fun ρ1 H1 ys m1 r0 hy ha => ?_
  · obtain ⟨rfl, ky, hkv⟩ := y
    obtain ⟨s, e, hLi, hkv2⟩ := kvs_at hkv
    cases hkv2
    obtain ⟨hat, t, h1, h2⟩ := lk_ent hk hLi m1
    refine ⟨rfl, ?_⟩
    refine ⟨_, rfl, ea s, _, _, _, rfl, rfl, SqL.of h1, rfl, t, _, _, _, rfl, rfl, SqT.of h2, rfl, _, rfl, ?_⟩
    cases hd : e.r.d with
    | true =>
      refine iteT ⟨_, rfl, ea s, _, _, _, rfl, rfl, SqL.of h1, rfl, t, _, _, _, rfl, rfl, SqT.of h2, rfl, ?_⟩
      exact hNy _ _ _ e.r.b (by rw [hLi]; show gDB (s, e) = _; unfold gDB; rw [if_pos hd]) rfl Mv.refl
    | false => exact iteF (hNn _ _ (by rw [hLi]; show gDB (s, e) = _; unfold gDB; rw [if_neg (by rw [hd]; decide)]) Mv.refl)
  · rw [kvs_len, fm_range] at ha
    obtain ⟨g1, g2⟩ := Mv.unlk hk.dict m1
    refine ⟨g1, ?_⟩
    have nD : D' ≠ A.ak := ne_of hy g1 (by intro z; cases z)
    have hy2 := (upd_ne (o := .dK (kvs ea L)) nD).trans hy
    rw [nats_of ha, natV_eq] at hy2
    refine ⟨D', _, rfl, SqL.of hy2, fun ns q hp hs hq => ?_⟩
    have e1 := sorted_blocks (blocks_nd u hk.rep.nd fun x hx => (hk.rep.mem _ _).mp hx) (blocks_mem hb hk.rep) hp hs
    rw [e1]
    exact k _ _ q (g2.new hq 0 _) rs_same (by rw [upd_same, natV_eq]; rfl)
def sp_num (K : PySem.W.Frag) (f : Mem → Int) : Sp := Sp1 fun a H Q => ∃ (c : Cfg) (ρ : Ro) (p : Addr) (m : Mem) (D : Ds) (on : Bool), a = .ref p ∧ PairAt K c ρ H p m D on ∧ Q (.int (f m)) H
theorem sc_P_hits : FnScope ["self"] ["self"] (defScope s_P_hits) := ⟨rfl, rfl, rfl, by decide +kernel, rfl, by decide +kernel, by decide +kernel⟩
theorem p_P_hits (T : Txt K mg) : Pro P w K mg base 1 (He.ga K "Pair") "hits" (sp_num K Mem.hits) := by
  refine pro_of T.F_P_hits T.cl_Pair T.pr_Pair_hits sc_P_hits len1 (fun _ _ _ _ _ _ us hl => match us, hl with | [_], _ => rfl) (fun cdv A outer s H vs Q E hr h => ?_)
  obtain ⟨a, rfl, c, ρ, p, m, D, on, rfl, ⟨A, h⟩, k⟩ := h
  obtain ⟨dn, ho⟩ := h.obj
  refine ⟨_, pss_one (ps_ret (pe_fld (pv 0) rfl)), ?_⟩
  exact ⟨_, rfl, p, _, A.dx, _, _, rfl, ho, T.cl_Pair, T.na_Pair_found, rfl, k⟩
theorem sc_P_requests : FnScope ["self"] ["self"] (defScope s_P_requests) := ⟨rfl, rfl, rfl, by decide +kernel, rfl, by decide +kernel, by decide +kernel⟩
theorem p_P_requests (T : Txt K mg) : Pro P w K mg base 1 (He.ga K "Pair") "requests" (sp_num K Mem.begun) := by
  refine pro_of T.F_P_requests T.cl_Pair T.pr_Pair_requests sc_P_requests len1 (fun _ _ _ _ _ _ us hl => match us, hl with | [_], _ => rfl) (fun cdv A outer s H vs Q E hr h => ?_)
  obtain ⟨a, rfl, c, ρ, p, m, D, on, rfl, ⟨A, h⟩, k⟩ := h
  obtain ⟨dn, ho⟩ := h.obj
  refine ⟨_, pss_one (ps_ret (pe_fld (pv 0) rfl)), ?_⟩
  exact ⟨_, rfl, p, _, A.dx, _, _, rfl, ho, T.cl_Pair, T.na_Pair_begun, rfl, k⟩
def sp_is_on (K : PySem.W.Frag) : Sp := Sp1 fun a H Q => ∃ (c : Cfg) (ρ : Ro) (p : Addr) (m : Mem) (D : Ds) (on : Bool), a = .ref p ∧ PairAt K c ρ H p m D on ∧ Q (.bl on) H
theorem sc_P_is_on : FnScope ["self"] ["self"] (defScope s_P_is_on) := ⟨rfl, rfl, rfl, by decide +kernel, rfl, by decide +kernel, by decide +kernel⟩
theorem p_P_is_on (T : Txt K mg) : Pro P w K mg base 1 (He.ga K "Pair") "is_on" (sp_is_on K) := by
  refine pro_of T.F_P_is_on T.cl_Pair T.pr_Pair_is_on sc_P_is_on len1 (fun _ _ _ _ _ _ us hl => match us, hl with | [_], _ => rfl) (fun cdv A outer s H vs Q E hr h => ?_)
  obtain ⟨a, rfl, c, ρ, p, m, D, on, rfl, ⟨A, h⟩, k⟩ := h
  obtain ⟨dn, ho⟩ := h.obj
  refine ⟨_, pss_one (ps_ret (pe_fld (pv 0) rfl)), ?_⟩
  exact ⟨_, rfl, p, _, A.dx, _, _, rfl, ho, T.cl_Pair, T.na_Pair_is_powered, rfl, k⟩
end
end Kb
set_option Elab.async false
set_option linter.all false
set_option maxRecDepth 100000
set_option maxHeartbeats 4000000
namespace Kb
open PySem PySem.Spec PyProof.Rows L2
def cnt (D : Ds) : List Int := [0 + D.slow.tr, 0 + D.slow.tw, 0 + D.slow.ts, 0 + D.fast.tr, 0 + D.fast.tw, 0 + D.fast.ts]
def tals (D : Ds) : List Int := [D.slow.tr, D.slow.tw, D.slow.ts, D.fast.tr, D.fast.tw, D.fast.ts]
theorem cnt_at (D : Ds) {i : Nat} (hi : i < 6) : ∃ x, (tals D)[i]? = some x ∧ (cnt D)[i]? = some (0 + x) ∧ ([.int 0, .int 0, .int 0, .int 0, .int 0, .int 0] : List V)[i]? = some (.int 0) := by
  match i, hi with
  | 0, _ => exact ⟨_, rfl, rfl, rfl⟩
  | 1, _ => exact ⟨_, rfl, rfl, rfl⟩
  | 2, _ => exact ⟨_, rfl, rfl, rfl⟩
  | 3, _ => exact ⟨_, rfl, rfl, rfl⟩
  | 4, _ => exact ⟨_, rfl, rfl, rfl⟩
  | 5, _ => exact ⟨_, rfl, rfl, rfl⟩
theorem fm_get {α : Type} (l : List α) : (List.range l.length).filterMap (fun i => l[i]?) = l := by
  have e := fm_range (fun x : α => some x) l
  rw [show (fun i => l[i]?.bind fun x => some x) = fun i => l[i]? from funext fun i => by cases l[i]? <;> rfl] at e
  rw [e]
  simp
def KnowV (H : Hp) (l : List (Nat × Ent)) (kvs : List (Key × V)) : Prop := Paired (fun (x : Nat × Ent) (kv : Key × V) => kv.1 = Sum.inl (x.1 : Int) ∧ RecAt H x.2.r kv.2) l kvs
theorem KnowV.mono {H H' : Hp} (k : ∀ a xs, H a = some (.tup xs) → H' a = some (.tup xs)) : ∀ {l : List (Nat × Ent)} {kvs : List (Key × V)}, KnowV H l kvs → KnowV H' l kvs
  | _, _, .nil => .nil
  | _, _, .cons r t => .cons ⟨r.1, let ⟨t, e, q⟩ := r.2; ⟨t, e, k t _ q⟩⟩ (KnowV.mono k t)
theorem KnowV.snoc {H : Hp} {x : Nat × Ent} {kv : Key × V} (h : kv.1 = Sum.inl (x.1 : Int) ∧ RecAt H x.2.r kv.2) : ∀ {l : List (Nat × Ent)} {kvs : List (Key × V)}, KnowV H l kvs → KnowV H (l ++ [x]) (kvs ++ [kv])
  | _, _, .nil => .cons h .nil
  | _, _, .cons r t => .cons r (KnowV.snoc h t)
theorem KnowV.keys {H : Hp} : ∀ {l : List (Nat × Ent)} {kvs : List (Key × V)}, KnowV H l kvs → kvs.map (·.1) = l.map fun x => (Sum.inl (x.1 : Int) : Key)
  | _, _, .nil => rfl
  | _, _, .cons r t => by rw [List.map_cons, List.map_cons, r.1, KnowV.keys t]
theorem KnowV.len {H : Hp} {l : List (Nat × Ent)} {kvs : List (Key × V)} (h : KnowV H l kvs) : kvs.length = l.length := by
  have e := congrArg List.length h.keys
  rw [List.length_map, List.length_map] at e
  exact e
theorem canon_len (kn : Kn) : (canon kn).length ≤ kn.length := by
  unfold canon
  have z := List.length_filterMap_le (fun s => (Kn.at kn s).map fun e => (s, e)) (List.range kn.length)
  rw [List.length_range] at z
  exact z
theorem canon_keys {L : List (Nat × Ent)} {kn : Kn} {ys : List Int} (h : LRep L kn) (p : ys.Perm (L.map fun x => (x.1 : Int))) (s : ys.Pairwise (· ≤ ·)) : ys = (canon kn).map fun x => (x.1 : Int) := by
  refine le_uniq (p.trans (h.perm.map _)) s ?_
  have z := canon_sd kn
  rw [List.pairwise_map] at z ⊢
  exact z.imp fun {a b} q => by omega
section
variable {P : Program} {w : World} {K : PySem.W.Frag} {mg : Str → Option Value} {base : Heap}
def sp_counts (K : PySem.W.Frag) : Sp := Sp1 fun a H Q => ∃ (c : Cfg) (ρ : Ro) (p : Addr) (m : Mem) (D : Ds) (on : Bool), a = .ref p ∧ PairAt K c ρ H p m D on ∧
  ∀ (ρ' : Ro) (H' : Hp) (t : Addr), Mv S0 ρ H ρ' H' → H' t = some (.tup ((cnt D).map V.int)) → Q (.ref t) H'
theorem sc_P_counts : FnScope ["self", "now", "past", "one"] ["self"] (defScope s_P_counts) := ⟨rfl, rfl, rfl, by decide +kernel, rfl, by decide +kernel, by decide +kernel⟩
theorem p_P_counts (T : Txt K mg) : Pro P w K mg base 1 (He.ga K "Pair") "counts" (sp_counts K) := by
  refine pro_of T.F_P_counts T.cl_Pair T.pr_Pair_counts sc_P_counts len1 (fun _ _ _ _ _ _ us hl => match us, hl with | [_], _ => rfl) (fun cdv A outer s H vs Q E hr h => ?_)
  obtain ⟨a, rfl, c, ρ, p, m, D, on, rfl, ⟨A, h⟩, k⟩ := h
  obtain ⟨dn, ho⟩ := h.obj
  obtain ⟨dx, Ls, hd, rd, hs⟩ := h.slow
  obtain ⟨dxf, Lf, hdf, rdf, hf⟩ := h.fast
  refine ⟨_, pss_cons (ps_set (i := 1) sc_P_counts.nd rfl (.inl rfl) (pe_op op_cat (pe_fld (pe_fld (pv 0) rfl) rfl) (pe_ifExp (pt_cmpR op_isN (pe_fld (pv 0) rfl) (pe_non) (nomark _)) (pe_lst (pa_cons (pe_int) (pa_cons (pe_int) (pa_cons (pe_int) pa_nil)))) (pe_fld (pe_fld (pv 0) rfl) rfl))))
      (pss_one (ps_ret (pe_callTy call_tuple_of (by rfl) T.f_tuple (by decide +kernel) (pa_cons (pe_lc (own := [("past", 2), ("one", 3)]) (by rfl) sc_P_counts.nd (g := gTup K 2 (gCons (gName 2) (gCons (gName 3) (gNil)))) (RZ.pi_zipA (by rfl) T.f_zip (pa_cons (pe_fld (pv 0) rfl) (pa_cons (pv 1) pa_nil))) (blkOk_by (own := [("past", 2), ("one", 3)]) (N := ["self", "now", "past", "one"]) (sc := defScope s_P_counts) (by decide +kernel)) (fun _ _ _ _ _ => pg_tup (n := 2) rfl (pgs_cons (pg_name (i := 2) sc_P_counts.nd rfl (.inl rfl) (.inr rfl)) (pgs_cons (pg_name (i := 3) sc_P_counts.nd rfl (.inl rfl) (.inr rfl)) pgs_nil))) (fun _ _ _ _ _ => pts_nil) (fun _ _ _ _ _ => pe_op op_add (pv 2) (pv 3))) pa_nil)))), ?_⟩
  refine ⟨_, rfl, p, _, A.dx, _, _, rfl, ho, T.cl_Pair, T.na_Pair_slow, rfl, A.ds, _, dx, _, _, rfl, hd, T.cl_Disk, T.na_Disk_tally, rfl, ?_⟩
  refine ⟨_, rfl, p, _, A.dx, _, _, rfl, ho, T.cl_Pair, T.na_Pair_fast, rfl, rfl, _, rfl, ite_ff (by simp) ?_⟩
  refine ⟨_, rfl, p, _, A.dx, _, _, rfl, ho, T.cl_Pair, T.na_Pair_fast, rfl, A.df, _, dxf, _, _, rfl, hdf, T.cl_Disk, T.na_Disk_tally, rfl, ?_⟩
  refine ⟨_, _, _, _, rfl, rfl, hs.ta, hf.ta, (show (6 : Nat) ≤ sizeLine by decide), fun q hq => ?_⟩
  have m0 : Mv S0 ρ H _ _ := Mv.refl.new hq 0 (.lst ((tals D).map V.int))
  have hp0 := m0.at0 h.past
  have ho0 := m0.at0 ho
  have hq0 : upd H q (.lst ((tals D).map V.int)) q = some (.lst ((tals D).map V.int)) := upd_same
  refine ⟨_, rfl, p, _, A.dx, _, _, rfl, ho0, T.cl_Pair, T.na_Pair_past, rfl, _, rfl, A.ap, q, _, _, rfl, .inl ⟨SqL.of hp0, SqL.of hq0, fun D' hD => lc_gen (ρ := rs ρ q 0) (walk_zip (n := 6) rfl) (by decide) cI (fun i => (cnt D)[i]?) (fun ρ1 H1 m1 => ⟨SqL.of (m1.at0 hp0), SqL.of (m1.at0 hq0)⟩) (fun i x ρ1 H1 H2 hi m1 y Ny Nn hNy hNn => ?_) hD fun ρ1 H1 ys m1 r0 hy ha => ?_⟩⟩
  · obtain ⟨U, x, y, rfl, hU, rfl, hx, hy⟩ := y
    obtain ⟨z, z1, z2, z3⟩ := cnt_at D hi
    have hx : ([.int 0, .int 0, .int 0, .int 0, .int 0, .int 0] : List V)[i]? = some x := hx
    have hy : ((tals D).map V.int)[i]? = some y := hy
    rw [z3] at hx
    rw [List.getElem?_map, z1] at hy
    cases hx
    cases hy
    refine pair_at ⟨rfl, ?_⟩
    exact ⟨_, rfl, _, rfl, _, _, rfl, rfl, hNy _ _ _ (0 + z) z2 rfl (Mv.refl.new hU 0 _)⟩
  · have e1 : (List.range 6).filterMap (fun i => (cnt D)[i]?) = cnt D := fm_get (cnt D)
    rw [e1] at ha
    rw [ints_of ha] at hy
    exact ⟨D', _, rfl, .inl ⟨SqL.of hy, fun l hl => k _ _ l ((m0.trans m1).new hl 0 _) upd_same⟩⟩
/-- the pending writes: a pair of lists -/
def sp_pending (K : PySem.W.Frag) : Sp := Sp1 fun a H Q => ∃ (c : Cfg) (ρ : Ro) (p : Addr) (m : Mem) (D : Ds) (on : Bool), a = .ref p ∧ PairAt K c ρ H p m D on ∧
  ∀ (ρ' : Ro) (H' : Hp) (t q1 q2 : Addr) (ys1 ys2 : List V), Mv S0 ρ H ρ' H' → H' t = some (.tup [.ref q1, .ref q2]) → H' q1 = some (.lst ys1) → H' q2 = some (.lst ys2) → All (cW cI) H' D.slow.wt ys1 → All (cW cR) H' D.fast.wt ys2 → Q (.ref t) H'
theorem sc_P_pending : FnScope ["self"] ["self"] (defScope s_P_pending) := ⟨rfl, rfl, rfl, by decide +kernel, rfl, by decide +kernel, by decide +kernel⟩
theorem p_P_pending (T : Txt K mg) : Pro P w K mg base 3 (He.ga K "Pair") "pending" (sp_pending K) := by
  refine pro_of T.F_P_pending T.cl_Pair T.pr_Pair_pending sc_P_pending len1 (fun _ _ _ _ _ _ us hl => match us, hl with | [_], _ => rfl) (fun cdv A outer s H vs Q E hr h => ?_)
  obtain ⟨a, rfl, c, ρ, p, m, D, on, rfl, ⟨A, h⟩, k⟩ := h
  obtain ⟨dn, ho⟩ := h.obj
  obtain ⟨dx, Ls, hd, rd, hs⟩ := h.slow
  refine ⟨_, pss_one (ps_ret (pe_tup (pa_cons (pe_pr (p_D_pending T) hr (by decide) (pe_fld (pv 0) rfl)) (pa_cons (pe_ifExp (pt_cmpR op_isN (pe_fld (pv 0) rfl) (pe_non) (nomark _)) (pe_lst (pa_nil)) (pe_pr (p_D_pending T) hr (by decide) (pe_fld (pv 0) rfl))) pa_nil)))), ?_⟩
  refine ⟨_, rfl, p, _, A.dx, _, _, rfl, ho, T.cl_Pair, T.na_Pair_slow, rfl, A.ds, dx, _, rfl, hd, _, rfl, Int, cI, 1010, ρ, A.ds, D.slow, rfl, ⟨dx, Ls, hd, rd, hs⟩, fun q1 ys1 hq1 ha1 => ?_⟩
  have m1 : Mv S0 ρ H _ _ := Mv.refl.new hq1 0 (.lst ys1)
  have h1 := h.mv0 m1
  obtain ⟨dn1, ho1⟩ := h1.obj
  obtain ⟨dxf, Lf, hdf, rdf, hf⟩ := h1.fast
  refine ⟨_, rfl, p, _, A.dx, _, _, rfl, ho1, T.cl_Pair, T.na_Pair_fast, rfl, rfl, _, rfl, ite_ff (by simp) ?_⟩
  refine ⟨_, rfl, p, _, A.dx, _, _, rfl, ho1, T.cl_Pair, T.na_Pair_fast, rfl, A.df, dxf, _, rfl, hdf, _, rfl, Option Rec, cR, 1020, _, A.df, D.fast, rfl, ⟨dxf, Lf, hdf, rdf, hf⟩, fun q2 ys2 hq2 ha2 => ?_⟩
  have m2 := m1.new hq2 0 (.lst ys2)
  have hq1' := (upd_ne (o := .lst ys2) (ne_of_none (upd_same (H := H) (a := q1) (o := .lst ys1)) hq2)).trans (upd_same (H := H) (a := q1) (o := .lst ys1))
  refine ⟨(show (2 : Nat) ≤ sizeLine by decide), fun t ht => ?_⟩
  have m3 := m2.new ht 0 (.tup [.ref q1, .ref q2])
  have hq2' : upd (upd H q1 (.lst ys1)) q2 (.lst ys2) q2 = some (.lst ys2) := upd_same
  have m23 := ((Mv.refl (S := S0) (ρ := rs ρ q1 0)).new hq2 0 (.lst ys2)).new ht 0 (.tup [.ref q1, .ref q2])
  exact k _ _ t q1 q2 ys1 ys2 m3 upd_same ((upd_ne (ne_of_none hq1' ht)).trans hq1') ((upd_ne (ne_of_none hq2' ht)).trans hq2') (ha1.mono m3.tups) (ha2.mono m23.tups)
def sp_known (K : PySem.W.Frag) : Sp := Sp1 fun a H Q => ∃ (c : Cfg) (ρ : Ro) (p : Addr) (m : Mem) (D : Ds), a = .ref p ∧ PairAt K c ρ H p m D true ∧
  ∀ (ρ' : Ro) (H' : Hp) (q : Addr) (kv : List (Key × V)), Mv S0 ρ H ρ' H' → ρ' q = 0 → H' q = some (.dK kv) → KnowV H' (canon m.kn) kv → Q (.ref q) H'
theorem sc_P_known : FnScope ["self", "slot"] ["self"] (defScope s_P_known) := ⟨rfl, rfl, rfl, by decide +kernel, rfl, by decide +kernel, by decide +kernel⟩
theorem p_P_known (T : Txt K mg) : Pro P w K mg base 2 (He.ga K "Pair") "known" (sp_known K) := by
  refine pro_of T.F_P_known T.cl_Pair T.pr_Pair_known sc_P_known len1 (fun _ _ _ _ _ _ us hl => match us, hl with | [_], _ => rfl) (fun cdv A outer s H vs Q E hr h => ?_)
  obtain ⟨a, rfl, c, ρ, p, m, D, rfl, ⟨A, h⟩, k⟩ := h
  obtain ⟨dn, ho⟩ := h.obj
  obtain ⟨hk8, ea, L, hk⟩ := h.kn
  have hlen := hk.rep.len
  have hcl := canon_len m.kn
  refine ⟨_, pss_cons (ps_expr (C8.pe_mt0 (m_P_need_on T) hr (by decide) (pv 0)))
      (pss_one (ps_ret (pe_dc (own := [("slot", 1)]) (by rfl) sc_P_known.nd (g := gName 1) (pi_list (pe_callB (call_sortedDI rfl) (by rfl) T.f_sorted (by decide +kernel) (pa_cons (pe_fld (pv 0) rfl) pa_nil))) (blkOk_by (own := [("slot", 1)]) (N := ["self", "slot"]) (sc := defScope s_P_known) (by decide +kernel)) (fun _ _ _ _ _ => pg_name (i := 1) sc_P_known.nd rfl (.inl rfl) (.inr rfl)) (fun _ _ _ _ _ => pts_nil) (fun _ _ _ _ _ => pv 1) (fun _ _ _ _ _ => pe_ix (r := rIxL K) ix_list (pe_dget (hu_of hr) (fieldK rfl (pv 0) rfl) (pv 1) (fun _ _ => rfl)) (pe_int) (fun _ _ => rfl))))), ?_⟩
  refine ⟨_, rfl, p, A.dx, _, rfl, ho, rfl, _, rfl, c, ρ, p, m, D, rfl, ⟨A, h⟩, ?_⟩
  refine ⟨_, rfl, p, _, A.dx, _, _, rfl, ho, T.cl_Pair, T.na_Pair_slots, rfl, A.ak, _, L.map (fun x => (x.1 : Int)), rfl, .inl hk.dict, by unfold kvs; rw [List.map_map, List.map_map]; rfl, by rw [List.length_map]; omega, fun ys q1 hp hs hq1 => ?_⟩
  have e1 := canon_keys hk.rep hp hs
  subst e1
  have m0 : Mv S0 ρ H _ _ := Mv.refl.new hq1 0 (.lst (((canon m.kn).map fun x => (x.1 : Int)).map V.int))
  have hq1' : upd H q1 (.lst (((canon m.kn).map fun x => (x.1 : Int)).map V.int)) q1 = some (.lst (((canon m.kn).map fun x => (x.1 : Int)).map V.int)) := upd_same
  have hn : (((canon m.kn).map fun x => (x.1 : Int)).map V.int).length = (canon m.kn).length := by rw [List.length_map, List.length_map]
  generalize upd H q1 (.lst (((canon m.kn).map fun x => (x.1 : Int)).map V.int)) = H0 at m0 hq1' ⊢
  generalize rs ρ q1 0 = ρ0 at m0
  refine ⟨q1, rfl, ⟨_, SqL.of hq1'⟩, fun D' hD => ?_⟩
  have w := walk_list (K := K) (a := q1) (xs := ((canon m.kn).map fun x => (x.1 : Int)).map V.int)
  rw [hn] at w
  refine ⟨fun i mm H' => mm = (canon m.kn).length - i ∧ i ≤ (canon m.kn).length ∧ ∃ ρ' kv, Mv S0 ρ0 H0 ρ' H' ∧ ρ' D' = 0 ∧ H' D' = some (.dK kv) ∧ KnowV H' ((canon m.kn).take i) kv, ⟨_, rfl, Nat.zero_le _, _, [], Mv.refl.new hD 0 (.dK []), rs_same, upd_same, .nil⟩, ?_⟩
  rintro i mm H1 ⟨rfl, hi, ρ1, kv, m1, r1, hd1, hkv⟩
  have hsq := m1.at0 hq1'
  by_cases hlt : i < (canon m.kn).length
  · refine .inr ⟨w.goes i H1 hlt (SqL.of hsq), _, fun H' z => ⟨(canon m.kn).length - (i + 1), by omega, rfl, hlt, z⟩, fun x H2 yy => ?_⟩
    obtain ⟨rfl, hx⟩ := w.yields i H1 x H2 hlt (SqL.of hsq) yy
    obtain ⟨s, e⟩ : ∃ s, (canon m.kn)[i]? = some s := ⟨_, List.getElem?_eq_getElem hlt⟩
    obtain ⟨s, en⟩ := s
    rw [List.getElem?_map, List.getElem?_map, e] at hx
    cases hx
    have hat := canon_mem.mp (List.mem_of_getElem? e)
    have h1 := (h.mv0 m0).mv0 m1
    obtain ⟨dn1, ho1⟩ := h1.obj
    obtain ⟨_, ea1, L1, hk1⟩ := h1.kn
    obtain ⟨_, t, he1, he2⟩ := hk1.ent s en hat
    have dg := hk1.dget (s := s)
    rw [hat] at dg
    refine ⟨rfl, _, rfl, _, rfl, p, _, A.dx, _, _, rfl, ho1, T.cl_Pair, T.na_Pair_slots, rfl, _, rfl, A.ak, _, rfl, dg, ea1 s, _, _, _, rfl, rfl, SqL.of he1, rfl, kv, Sum.inl (s : Int), rfl, hd1, ?_, ?_⟩
    · have z := hkv.len
      rw [List.length_take] at z
      unfold sizeLine
      omega
    · have nok : (kv.any fun x => decide (x.1 = Sum.inl (s : Int))) = false := by
        cases q : kv.any fun x => decide (x.1 = Sum.inl (s : Int)) with
        | false => rfl
        | true =>
          obtain ⟨x, hx, hxe⟩ := List.any_eq_true.mp q
          have hm : x.1 ∈ kv.map (·.1) := List.mem_map_of_mem hx
          rw [hkv.keys] at hm
          obtain ⟨y, hy, hye⟩ := List.mem_map.mp hm
          have hys : y.1 = s := key_inj.mp (hye.trans (of_decide_eq_true hxe))
          obtain ⟨j, hj⟩ := List.mem_iff_getElem?.mp hy
          have hjl := (List.getElem?_eq_some_iff.mp hj).1
          rw [List.length_take] at hjl
          rw [List.getElem?_take_of_lt (by omega)] at hj
          have sd := canon_sd m.kn
          rw [List.pairwise_map, List.pairwise_iff_getElem] at sd
          have hji : j < i := by omega
          have z := sd j i (by omega) hlt hji
          obtain ⟨_, hj2⟩ := List.getElem?_eq_some_iff.mp hj
          obtain ⟨_, he3⟩ := List.getElem?_eq_some_iff.mp e
          rw [hj2, he3] at z
          have z : y.1 < s := z
          omega
      have pk : putK kv (Sum.inl (s : Int)) (.ref t) = kv ++ [(Sum.inl (s : Int), .ref t)] := by
        unfold putK
        rw [nok, if_neg Bool.false_ne_true]
      refine ⟨ρ1, _, m1.wr hd1 (fun xs z => by cases z) (.inl hD) _, r1, upd_same, ?_⟩
      rw [pk, List.take_succ, e]
      have kk : ∀ b zs, H2 b = some (.tup zs) → upd H2 D' (.dK (kv ++ [(Sum.inl (s : Int), V.ref t)])) b = some (.tup zs) := fun b zs q => (upd_ne (ne_of q hd1 (by intro z; cases z))).trans q
      exact KnowV.snoc ⟨rfl, t, rfl, kk _ _ he2⟩ (hkv.mono kk)
  · have hie : i = (canon m.kn).length := by omega
    subst hie
    rw [List.take_length] at hkv
    exact .inl ⟨w.stops H1 (SqL.of hsq), k _ _ D' kv (m0.trans m1) r1 hd1 hkv⟩
end
end Kb
set_option Elab.async false
set_option linter.all false
set_option maxRecDepth 100000
set_option maxHeartbeats 4000000
/-! What a restart learns, slot by slot. -/
namespace Kb
open PySem PySem.Spec PyProof.Rows L2
def entOf (rl : List (Option Rec)) (now : Int) (s : Nat) : Option Ent := match recAt rl s with
  | some r => if isBest rl s then some ⟨r, now, now, 1⟩ else none
  | none => none
def knTo (rl : List (Option Rec)) (now : Int) (i : Nat) : Kn := (List.range rl.length).map fun s => if s < i then entOf rl now s else none
theorem knTo_len {rl : List (Option Rec)} {now : Int} {i : Nat} : (knTo rl now i).length = rl.length := by
  unfold knTo
  rw [List.length_map, List.length_range]
theorem knTo_zero {rl : List (Option Rec)} {now : Int} : knTo rl now 0 = nones rl.length := by
  unfold knTo nones
  rw [List.eq_replicate_iff]
  refine ⟨by rw [List.length_map, List.length_range], fun x hx => ?_⟩
  obtain ⟨s, _, e⟩ := List.mem_map.mp hx
  rw [← e, if_neg (Nat.not_lt_zero _)]
theorem knTo_all {rl : List (Option Rec)} {now : Int} : knTo rl now rl.length = knOf rl now := by
  unfold knTo knOf
  refine List.map_congr_left fun s hs => ?_
  rw [if_pos (List.mem_range.mp hs)]
  rfl
theorem knTo_get {rl : List (Option Rec)} {now : Int} {i s : Nat} (h : s < rl.length) : (knTo rl now i)[s]? = some (if s < i then entOf rl now s else none) := by
  unfold knTo
  rw [List.getElem?_map, List.getElem?_range h]
  rfl
theorem knTo_at {rl : List (Option Rec)} {now : Int} {i : Nat} (h : i < rl.length) : Kn.at (knTo rl now i) i = none := by
  unfold Kn.at
  rw [knTo_get h, if_neg (Nat.lt_irrefl _)]
  rfl
theorem knTo_succ {rl : List (Option Rec)} {now : Int} {i : Nat} (h : i < rl.length) : knTo rl now (i + 1) = (knTo rl now i).set i (entOf rl now i) := by
  apply List.ext_getElem?
  intro s
  by_cases hs : s < rl.length
  · rw [knTo_get hs, List.getElem?_set, knTo_len]
    by_cases z : i = s
    · subst z
      rw [if_pos rfl, if_pos h, if_pos (Nat.lt_succ_self _)]
    · rw [if_neg z, knTo_get hs]
      by_cases q : s < i
      · rw [if_pos q, if_pos (by omega)]
      · rw [if_neg q, if_neg (by omega)]
  · rw [List.getElem?_eq_none (by rw [knTo_len]; omega), List.getElem?_eq_none (by rw [List.length_set, knTo_len]; omega)]
theorem knTo_skip {rl : List (Option Rec)} {now : Int} {i : Nat} (h : i < rl.length) (e : entOf rl now i = none) : knTo rl now (i + 1) = knTo rl now i := by
  rw [knTo_succ h, e, set_none (knTo_at h)]
def tStep (t : Int) (o : Option Rec) : Int := match o with
  | some r => if r.t + 1 > t then r.t + 1 else t
  | none => t
def turnTo (rl : List (Option Rec)) (i : Nat) : Int := (rl.take i).foldl tStep 1
theorem turnTo_all {rl : List (Option Rec)} : turnTo rl rl.length = turnOf rl := by
  unfold turnTo
  rw [List.take_length]
  rfl
theorem turnTo_succ {rl : List (Option Rec)} {i : Nat} (h : i < rl.length) : turnTo rl (i + 1) = tStep (turnTo rl i) (recAt rl i) := by
  unfold turnTo
  rw [List.take_succ, List.foldl_append]
  unfold recAt
  rw [List.getElem?_eq_getElem h]
  rfl
def isFr (rl : List (Option Rec)) (s : Nat) : Bool := match recAt rl s with
  | some r => r.d && !isBest rl s
  | none => false
def freedTo (rl : List (Option Rec)) (i : Nat) : List Nat := (List.range i).filter (isFr rl)
theorem freed_eq (rl : List (Option Rec)) : freed rl = freedTo rl rl.length := rfl
theorem freedTo_skip {rl : List (Option Rec)} {i : Nat} (h : isFr rl i = false) : freedTo rl (i + 1) = freedTo rl i := by
  unfold freedTo
  rw [List.range_succ, List.filter_append, List.filter_cons_of_neg (by rw [h]; decide), List.filter_nil, List.append_nil]
theorem freedTo_add {rl : List (Option Rec)} {i : Nat} (h : isFr rl i = true) : freedTo rl (i + 1) = freedTo rl i ++ [i] := by
  unfold freedTo
  rw [List.range_succ, List.filter_append, List.filter_cons_of_pos h, List.filter_nil]
theorem freeAll_snoc (D : Dk (Option Rec)) (l : List Nat) (s : Nat) : freeAll D (l ++ [s]) = (freeAll D l).write s none := by
  unfold freeAll
  rw [List.foldl_append]
  rfl
theorem freeAll_len (D : Dk (Option Rec)) : ∀ l : List Nat, (freeAll D l).sh.length = D.sh.length ∧ (freeAll D l).wt.length = D.wt.length + l.length := by
  intro l
  induction l generalizing D with
  | nil => exact ⟨rfl, rfl⟩
  | cons s l ih =>
    obtain ⟨i1, i2⟩ := ih (D.write s none)
    refine ⟨i1.trans (by show (D.sh.set s none).length = _; rw [List.length_set]), i2.trans ?_⟩
    show (D.wt ++ [(s, none)]).length + l.length = _
    rw [List.length_append, List.length_singleton, List.length_cons]
    omega
theorem freedTo_len {rl : List (Option Rec)} {i : Nat} : (freedTo rl i).length ≤ i := by
  have z := List.length_filter_le (isFr rl) (List.range i)
  rw [List.length_range] at z
  exact z
/-- every dirty record's block is among the best -/
theorem lookup_key {b : Nat} {L : List (Nat × Nat)} (h : b ∈ L.map (·.1)) : ∃ s, L.lookup b = some s := by
  cases q : L.lookup b with
  | none => exact absurd h (lookup_none q)
  | some s => exact ⟨s, rfl⟩
theorem best_keys {rl : List (Option Rec)} : ∀ (i j : Nat) (r : Rec), j < i → recAt rl j = some r → r.d = true → r.b ∈ (bestTo rl i).map (·.1)
  | 0, _, _, h, _, _ => absurd h (Nat.not_lt_zero _)
  | i + 1, j, r, h, hr, hd => by
    have keep : ∀ b, b ∈ (bestTo rl i).map (·.1) → b ∈ (bestTo rl (i + 1)).map (·.1) := fun b hb => by
      rw [bestTo_succ]
      cases q : recAt rl i with
      | none =>
        rw [bestStep_skip fun r h => by rw [q] at h; cases h]
        exact hb
      | some r' =>
        cases d : r'.d with
        | false =>
          rw [bestStep_skip fun r h => by rw [q] at h; cases h; exact d]
          exact hb
        | true =>
          cases n : (bestTo rl i).lookup r'.b with
          | none =>
            rw [bestStep_none q d n, List.map_append]
            exact List.mem_append.mpr (.inl hb)
          | some s0 =>
            obtain ⟨r0, h0, _⟩ := (bestI rl i).mem _ (lookup_mem n)
            by_cases g : r0.t < r'.t
            · rw [bestStep_gt q d n h0 g, map_keys]
              exact hb
            · rw [bestStep_le q d n h0 g]
              exact hb
    by_cases z : j < i
    · exact keep _ (best_keys i j r z hr hd)
    · have e : j = i := by omega
      subst e
      cases n : (bestTo rl j).lookup r.b with
      | none =>
        rw [bestTo_succ, bestStep_none hr hd n, List.map_append]
        exact List.mem_append.mpr (.inr (by simp))
      | some s0 => exact keep _ (List.mem_map.mpr ⟨_, lookup_mem n, rfl⟩)
theorem best_has {rl : List (Option Rec)} {s : Nat} {r : Rec} (hr : recAt rl s = some r) (hd : r.d = true) : ∃ s0, (bestL rl).lookup r.b = some s0 := by
  have hs : s < rl.length := by
    have z := recAt_some hr
    exact (List.getElem?_eq_some_iff.mp z).1
  exact lookup_key (best_keys rl.length s r hs hr hd)
theorem isBest_eq {rl : List (Option Rec)} {s : Nat} {r : Rec} (hr : recAt rl s = some r) : isBest rl s = (r.d && decide ((bestL rl).lookup r.b = some s)) := by
  unfold isBest
  rw [hr]
end Kb
set_option Elab.async false
set_option linter.all false
set_option maxRecDepth 100000
set_option maxHeartbeats 4000000
namespace Kb
open PySem PySem.Spec PyProof.Rows L2
def learnF (rl : List (Option Rec)) (D : Dk (Option Rec)) : Dk (Option Rec) := if freed rl = [] then D else (freeAll D (freed rl)).sync
theorem isEmpty_iff' {α : Type} {l : List α} : l.isEmpty = true ↔ l = [] := by cases l <;> simp
section
variable {P : Program} {w : World} {K : PySem.W.Frag} {mg : Str → Option Value} {base : Heap}
def sp_learn (K : PySem.W.Frag) : Sp := Sp2 fun a b H Q => ∃ (c : Cfg) (ρ : Ro) (p l : Addr) (m : Mem) (D : Ds) (on : Bool) (rl : List (Option Rec)) (vs : List V), a = .ref p ∧ b = .ref l ∧ PairAt K c ρ H p m D on ∧ H l = some (.lst vs) ∧ All cR H rl vs ∧ ρ l = 0 ∧
  m.kn = nones rl.length ∧ m.turn = 1 ∧ D.fast.sh.length = rl.length ∧ D.fast.wt = [] ∧
  ∀ ρ' H', PairAt K c ρ' H' p ⟨knOf rl (m.begun - 1), turnOf rl, m.begun, m.hits⟩ { D with fast := learnF rl D.fast } on → Mv SP ρ H ρ' H' → Q .non H'
theorem sc_P_learn : FnScope ["self", "records", "best", "now", "is_freed", "slot", "record"] ["self", "records"] (defScope s_P_learn) := ⟨rfl, rfl, rfl, by decide +kernel, rfl, by decide +kernel, by decide +kernel⟩
theorem m_P_learn (T : Txt K mg) : C8.Met P w K mg base 5 (He.ga K "Pair") "learn" (sp_learn K) [] := by
  refine met_of T.F_P_learn T.cl_Pair T.mt_Pair_learn sc_P_learn len2 (fun _ _ _ _ _ _ us hl => match us, hl with | [_, _], _ => rfl) (fun cdv A outer s H vs Q E hr h => ?_)
  obtain ⟨a, b, rfl, c, ρ, p, l, m, D, on, rl, vs, rfl, rfl, ⟨A0, h0⟩, hl, ha, rl0, hkn, htn, hsl, hwt, k⟩ := h
  have hlen := ha.len
  have hk8 := h0.kn.1
  have hnl : (nones rl.length).length = rl.length := by unfold nones; rw [List.length_replicate]
  rw [hkn, hnl] at hk8
  refine ⟨_, pss_cons (ps_par3 (i := 2) (j := 3) (l := 4) (by rfl) sc_P_learn.nd rfl rfl rfl (by decide) (by decide) (by decide) rfl rfl rfl (pa_cons (C8.pe_c (c_P_best_dirty T) hr (by decide) rfl (pa_cons (pv 1) pa_nil)) (pa_cons (pe_op op_sub (pe_fld (pv 0) rfl) (pe_int)) (pa_cons (pe_bl) pa_nil))) (by rfl))
      (pss_cons (ps_for PassesOwn.never rfl (pi_enum (by rfl) T.f_enumerate (pa_cons (pv 1) pa_nil)) (pg_tup (n := 2) rfl (pgs_cons (pg_name (i := 5) sc_P_learn.nd rfl (.inl rfl)) (pgs_cons (pg_name (i := 6) sc_P_learn.nd rfl (.inl rfl)) pgs_nil))) (pss_one (ps_if (pt_cmpR op_notN (pv 6) (pe_non) (nomark _)) (pss_cons (ps_fld (pv 0) (pe_callB (call_max2 rfl) (by rfl) T.f_max (by decide +kernel) (pa_cons (pe_fld (pv 0) rfl) (pa_cons (pe_op op_add (pe_ix (r := rIxT K) ix_tup (pv 6) (pe_int) (fun _ _ => rfl)) (pe_int)) pa_nil))) rfl)
      (pss_one (ps_if (PW.pt (pw_and (pt_val (pe_ix (r := rIxT K) ix_tup (pv 6) (pe_int) (fun _ _ => rfl))) (pw_and1 (pt_cmpR op_eq (pe_dget (hu_of hr) (pv 2) (pe_ix (r := rIxT K) ix_tup (pv 6) (pe_int) (fun _ _ => rfl)) (fun _ _ => rfl)) (pv 5) (nomark _))))) (pss_one (ps_dput (hu_of hr) (pe_fld (pv 0) rfl) (pv 5) (pe_lst (pa_cons (pv 6) (pa_cons (pv 3) (pa_cons (pv 3) (pa_cons (pe_int) pa_nil))))) rfl)) (pss_one (ps_if (pt_val (pe_ix (r := rIxT K) ix_tup (pv 6) (pe_int) (fun _ _ => rfl))) (pss_cons (ps_expr (C8.pe_mt (m_D_write T) hr (by decide) (pe_fld (pv 0) rfl) (pa_cons (pv 5) (pa_cons (pe_non) pa_nil))))
      (pss_cons (ps_augS (pe_fld (pv 0) rfl) (pv 5) pget_list (pe_int) ip_add set_list)
      (pss_one (ps_set (i := 4) sc_P_learn.nd rfl (.inl rfl) (pe_bl))))) (pss_nil)))))) (pss_nil))))
      (pss_one (ps_if (pt_val (pv 4)) (pss_one (ps_expr (C8.pe_mt0 (m_D_sync T) hr (by decide) (pe_fld (pv 0) rfl)))) (pss_nil)))), ?_⟩
  refine ⟨_, rfl, _, rfl, l, rl, vs, ρ, rfl, hl, ha, by omega, fun d ρ1 H1 hd m1 r1 hd1 => ?_⟩
  have h1 := h0.mv0 m1
  obtain ⟨dn1, ho1⟩ := h1.obj
  refine ⟨_, rfl, p, _, A0.dx, _, _, rfl, ho1, T.cl_Pair, T.na_Pair_begun, rfl, _, _, rfl, rfl, _, _, _, rfl, ?_⟩
  have hl1 := m1.at0 hl
  have rl1 := m1.ro hl rl0
  have ha1 := ha.mono m1.tups
  refine ⟨_, rfl, l, vs, rfl, SqL.of hl1, ?_⟩
  refine for_it walk_enum (fun i σ H' => ∃ x y ρ', σ = [some (.ref p), some (.ref l), some (.ref d), some (.int (m.begun - 1)), some (.bl (!(freedTo rl i).isEmpty)), x, y] ∧ Mv SP ρ1 H1 ρ' H' ∧ PairAt K c ρ' H' p ⟨knTo rl (m.begun - 1) i, turnTo rl i, m.begun, m.hits⟩ { D with fast := freeAll D.fast (freedTo rl i) } on)
    ⟨_, _, ρ1, rfl, Mv.refl, by
      have e : (⟨knTo rl (m.begun - 1) 0, turnTo rl 0, m.begun, m.hits⟩ : Mem) = m := by
        rw [knTo_zero, ← hkn, show turnTo rl 0 = 1 from rfl, ← htn]
      rw [e]
      exact ⟨A0, h1⟩⟩ (fun i σ H' _ ⟨_, _, _, _, mm, _⟩ => SqL.of (mm.keeps hl1 rl1 sp0)) (fun i x σ H2 H3 hi ⟨x0, y0, ρ2, e0, m2, ⟨A2, g2⟩⟩ y => ?_) (fun σ H2 ⟨x0, y0, ρ2, e0, m2, ⟨A2, g2⟩⟩ => ?_)
  · obtain ⟨U, x, y, rfl, hU, rfl, hx, hy⟩ := y
    subst e0
    cases hx
    refine pair_at ?_
    have mU : Mv S0 ρ2 H2 _ _ := Mv.refl.new hU 0 (.tup [.int (i : Nat), y])
    have g3 := g2.mv0 mU
    have m3 := m2.trans (mU.mono (S' := SP) s0_sp)
    clear g2 m2
    generalize upd H2 U (.tup [.int (i : Nat), y]) = H3 at *
    generalize rs ρ2 U 0 = ρ3 at *
    have hir : i < rl.length := by omega
    rcases rec_at (ha1.mono m3.tups) hy with ⟨hn, rfl⟩ | ⟨rc, t, hrc, rfl, ht⟩
    · have fe : freedTo rl (i + 1) = freedTo rl i := freedTo_skip (by unfold isFr; rw [hn])
      refine ⟨_, rfl, rfl, _, rfl, ite_ff nn_non ⟨some (.int (i : Nat)), some .non, ρ3, by rw [fe]; rfl, m3, A2, ?_⟩⟩
      rw [fe, knTo_skip hir (by unfold entOf; rw [hn]), turnTo_succ hir, hn]
      exact g3
    · obtain ⟨dn3, ho3⟩ := g3.obj
      refine ⟨_, rfl, rfl, _, rfl, ite_tt (nn_ref t) ?_⟩
      refine ⟨_, rfl, p, _, A2.dx, _, _, rfl, ho3, T.cl_Pair, T.na_Pair_turn, rfl, _, rfl, t, _, _, _, rfl, rfl, SqT.of ht, rfl, _, _, rfl, rfl, _, _, rfl, _, rfl, p, _, A2.dx, _, rfl, ho3, T.cl_Pair, T.na_Pair_turn, (show (13 : Nat) < 1000 by decide), ?_⟩
      obtain ⟨g4, m4⟩ := g3.obj' (if rc.t + 1 > turnTo rl i then rc.t + 1 else turnTo rl i) m.begun m.hits on dn3
      have tE : (if rc.t + 1 > turnTo rl i then rc.t + 1 else turnTo rl i) = turnTo rl (i + 1) := by
        rw [turnTo_succ hir, hrc]
        rfl
      have ho4 : upd H3 p (.ins (He.ga K "Pair") A2.dx (pairF A2 (if rc.t + 1 > turnTo rl i then rc.t + 1 else turnTo rl i) m.begun m.hits on dn3)) p = some (.ins (He.ga K "Pair") A2.dx (pairF A2 (if rc.t + 1 > turnTo rl i then rc.t + 1 else turnTo rl i) m.begun m.hits on dn3)) := upd_same
      have g4 : PairS K c ρ3 (upd H3 p (.ins (He.ga K "Pair") A2.dx (pairF A2 (if rc.t + 1 > turnTo rl i then rc.t + 1 else turnTo rl i) m.begun m.hits on dn3))) p A2 ⟨knTo rl (m.begun - 1) i, turnTo rl (i + 1), m.begun, m.hits⟩ { D with fast := freeAll D.fast (freedTo rl i) } on := by rw [← tE]; exact g4
      have m34 := m3.trans (m4.mono (s1_sp (by decide) (by decide)))
      have ht4 := m4.tups _ _ ht
      have hd4 := m34.keeps hd1 r1 sp0
      refine ⟨_, rfl, t, _, _, _, rfl, rfl, SqT.of ht4, rfl, _, rfl, ?_⟩
      rcases Bool.eq_false_or_eq_true rc.d with hdd | hdd
      · refine ite_tt hdd ?_
        obtain ⟨s0, hs0⟩ := best_has hrc hdd
        have dg : DGet _ d (.int (rc.b : Int)) (valV (bestV (bestL rl)) (Sum.inl (rc.b : Int))) := DGet.k (k := Sum.inl (rc.b : Int)) hd4
        rw [bestV_val, hs0] at dg
        refine ⟨_, rfl, _, rfl, t, _, _, _, rfl, rfl, SqT.of ht4, rfl, d, _, rfl, dg, _, rfl, rfl, _, rfl, ?_⟩
        by_cases hsi : s0 = i
        · have hbest : isBest rl i = true := by rw [isBest_eq hrc, hdd, hs0, hsi]; simp
          have fe : freedTo rl (i + 1) = freedTo rl i := freedTo_skip (by unfold isFr; rw [hrc]; show (rc.d && !isBest rl i) = false; rw [hbest, hdd]; rfl)
          have ee : entOf rl (m.begun - 1) i = some ⟨rc, m.begun - 1, m.begun - 1, 1⟩ := by unfold entOf; rw [hrc]; show (if isBest rl i = true then _ else _) = _; rw [if_pos hbest]
          refine ite_tt (decide_eq_true (by rw [hsi])) ?_
          refine ⟨_, rfl, _, rfl, _, rfl, (show (4 : Nat) ≤ sizeLine by decide), fun q hq => ?_⟩
          have m5 : Mv S0 ρ3 _ _ _ := Mv.refl.new hq (1030 + 1 + i) (.lst (entV t ⟨rc, m.begun - 1, m.begun - 1, 1⟩))
          have g5 := g4.mv0 m5
          obtain ⟨dn5, ho5⟩ := g5.obj
          obtain ⟨hk85, ea5, L5, hk5⟩ := g5.kn
          have hk85 : (knTo rl (m.begun - 1) i).length ≤ 8 := hk85
          refine ⟨_, rfl, p, _, A2.dx, _, _, rfl, ho5, T.cl_Pair, T.na_Pair_slots, rfl, _, rfl, A2.ak, _, rfl, DPut.k (k := Sum.inl (i : Int)) hk5.dict (by
            unfold sizeLine
            rw [kvs_len]
            have z := hk5.rep.len
            have z2 : (knTo rl (m.begun - 1) i).length ≤ 8 := hk85
            have z3 : L5.length ≤ (knTo rl (m.begun - 1) i).length := z
            omega), ?_⟩
          obtain ⟨ea', L', hk6⟩ := hk5.putA (s := i) (e := ⟨rc, m.begun - 1, m.begun - 1, 1⟩) (show i < (knTo rl (m.begun - 1) i).length by rw [knTo_len]; exact hir) upd_same rs_same (m5.tups _ _ ht4)
          have m6 := hk5.mvK (.dK (putK (kvs ea5 L5) (Sum.inl (i : Int)) (.ref q)))
          have g6 := g5.know' (kn := (knTo rl (m.begun - 1) i).set i (some ⟨rc, m.begun - 1, m.begun - 1, 1⟩)) set_len ⟨by rw [set_len]; exact hk85, _, _, hk6⟩ m6
          refine ⟨some (.int (i : Nat)), some (.ref t), _, by rw [fe]; rfl, m34.trans ((m5.mono s0_sp).trans (m6.mono sk_sp)), A2, ?_⟩
          rw [fe, knTo_succ hir, ee]
          exact g6
        · have hbest : isBest rl i = false := by
            rw [isBest_eq hrc, hdd, hs0]
            simpa using hsi
          have hfr : isFr rl i = true := by unfold isFr; rw [hrc]; show (rc.d && !isBest rl i) = true; rw [hbest, hdd]; rfl
          have fe := freedTo_add hfr
          have ee : entOf rl (m.begun - 1) i = none := by unfold entOf; rw [hrc]; show (if isBest rl i = true then _ else _) = _; rw [hbest, if_neg Bool.false_ne_true]
          refine ite_ff (decide_eq_false fun z => hsi (by injection z with z; omega)) ?_
          refine ⟨_, rfl, t, _, _, _, rfl, rfl, SqT.of ht4, rfl, _, rfl, ite_tt hdd ?_⟩
          obtain ⟨dxf, Lf, hdf, rdf, hfk⟩ := g4.fast
          obtain ⟨z1, z2⟩ := freeAll_len D.fast (freedTo rl i)
          have z3 : (freedTo rl i).length ≤ i := freedTo_len
          rw [hwt, List.length_nil] at z2
          refine ⟨_, rfl, p, _, A2.dx, _, _, rfl, ho4, T.cl_Pair, T.na_Pair_fast, rfl, A2.df, dxf, _, rfl, hdf, rfl, _, rfl, ?_⟩
          refine ⟨_, _, _, rfl, Option Rec, cR, 1020, ρ3, A2.df, freeAll D.fast (freedTo rl i), i, none, rfl, rfl, ⟨dxf, Lf, hdf, rdf, hfk⟩, by omega, rfl, by omega, fun ρ5 H5 gd m5 => ?_⟩
          have g5 := g4.fast' gd m5
          obtain ⟨dn5, ho5⟩ := g5.obj
          obtain ⟨ws, hwl, hws⟩ := g5.wr
          have hwl : ws.length = (knTo rl (m.begun - 1) i).length := hwl
          rw [knTo_len] at hwl
          have hwx : (ws.map V.int)[i]? = some (.int ws[i]) := by
            rw [List.getElem?_map, List.getElem?_eq_getElem (by omega)]
            rfl
          refine ⟨_, rfl, p, _, A2.dx, _, _, rfl, ho5, T.cl_Pair, T.na_Pair_writes, rfl, _, rfl, _, _, _, _, rfl, rfl, SqL.of hws, atI_nat hwx, _, _, rfl, rfl, A2.aw, _, _, i, rfl, rfl, hws, ixn (by rw [List.length_map]; omega), ?_⟩
          have e1 : (ws.map V.int).set i (.int (ws[i] + 1)) = (ws.set i (ws[i] + 1)).map V.int := by rw [List.map_set]
          obtain ⟨g6, m6⟩ := g5.wr' (ws := ws.set i (ws[i] + 1)) (show _ = (knTo rl (m.begun - 1) i).length by rw [List.length_set, knTo_len]; exact hwl)
          rw [← e1] at g6 m6
          refine ⟨some (.int (i : Nat)), some (.ref t), ρ5, by rw [fe]; simp, m34.trans ((m5.mono (sd_sp (by decide) (by decide))).trans (m6.mono (s1_sp (by decide) (by decide)))), A2, ?_⟩
          rw [fe, freeAll_snoc, knTo_skip hir ee]
          exact g6
      · have hfr : isFr rl i = false := by unfold isFr; rw [hrc]; show (rc.d && !isBest rl i) = false; rw [hdd]; rfl
        have hbest : isBest rl i = false := by rw [isBest_eq hrc, hdd]; rfl
        have ee : entOf rl (m.begun - 1) i = none := by unfold entOf; rw [hrc]; show (if isBest rl i = true then _ else _) = _; rw [hbest, if_neg Bool.false_ne_true]
        have fe := freedTo_skip hfr
        refine ite_ff hdd (iteF ⟨_, rfl, t, _, _, _, rfl, rfl, SqT.of ht4, rfl, _, rfl, ite_ff hdd ⟨some (.int (i : Nat)), some (.ref t), ρ3, by rw [fe]; rfl, m34, A2, ?_⟩⟩)
        rw [fe, knTo_skip hir ee]
        exact g4
  · subst e0
    rw [← hlen, knTo_all, turnTo_all, ← freed_eq] at g2
    refine ⟨_, rfl, _, rfl, ?_⟩
    rw [← hlen, ← freed_eq]
    by_cases hfz : freed rl = []
    · rw [hfz] at g2 ⊢
      refine iteF (k ρ2 H2 ⟨A2, ?_⟩ ((m1.mono s0_sp).trans m2))
      have e : learnF rl D.fast = freeAll D.fast [] := if_pos hfz
      rw [e]
      exact g2
    · have ne : (!(freed rl).isEmpty) = true := by
        cases hq : freed rl with
        | nil => exact absurd hq hfz
        | cons a r => rfl
      refine ite_tt ne ?_
      obtain ⟨dn2, ho2⟩ := g2.obj
      obtain ⟨dxf, Lf, hdf, rdf, hfk⟩ := g2.fast
      refine ⟨_, rfl, p, _, A2.dx, _, _, rfl, ho2, T.cl_Pair, T.na_Pair_fast, rfl, A2.df, dxf, _, rfl, hdf, rfl, ?_⟩
      refine ⟨_, rfl, Option Rec, cR, 1020, ρ2, A2.df, freeAll D.fast (freed rl), rfl, ⟨dxf, Lf, hdf, rdf, hfk⟩, fun ρ3 H3 gd m3 => ?_⟩
      refine k ρ3 H3 ⟨A2, ?_⟩ (((m1.mono s0_sp).trans m2).trans (m3.mono (sd_sp (by decide) (by decide))))
      have e : learnF rl D.fast = (freeAll D.fast (freed rl)).sync := if_neg hfz
      rw [e]
      exact g2.fast' gd m3
end
end Kb
set_option Elab.async false
set_option linter.all false
set_option maxRecDepth 100000
set_option maxHeartbeats 4000000
namespace Kb
open PySem PySem.Spec PyProof.Rows L2
theorem PairS.mvR {K : PySem.W.Frag} {c : Cfg} {S : Nat → Prop} {ρ ρ' : Ro} {H H' : Hp} {p : Addr} {A : PA} {m : Mem} {D : Ds} {on : Bool} (h : PairS K c ρ H p A m D on) (v : Mv S ρ H ρ' H') (n : ∀ i, 1000 ≤ i → i < 2000 → ¬ S i) : PairS K c ρ' H' p A m D on := by
  obtain ⟨dn, ho⟩ := h.obj
  obtain ⟨ws, hl, hw⟩ := h.wr
  exact ⟨⟨dn, v.keeps ho h.role (n _ (by decide) (by decide))⟩, v.ro ho h.role, v.keeps h.past h.rp (n _ (by decide) (by decide)), v.ro h.past h.rp, ⟨ws, hl, v.keeps hw h.rw_ (n _ (by decide) (by decide))⟩, v.ro hw h.rw_, h.rul.mv v (n _ (by decide) (by decide)), h.ord.mv v (n _ (by decide) (by decide)),
    h.slow.mv v fun i hi => n _ (by omega) (by omega), h.fast.mv v fun i hi => n _ (by omega) (by omega), h.kn.mv v fun i hi => n _ (by omega) (by omega)⟩
theorem knOf_at {rl : List (Option Rec)} {now : Int} {s : Nat} {e : Ent} (h : Kn.at (knOf rl now) s = some e) : s < rl.length ∧ ∃ r, recAt rl s = some r ∧ isBest rl s = true ∧ e = ⟨r, now, now, 1⟩ := by
  have hs := at_lt h
  rw [← knTo_all, knTo_len] at hs
  rw [← knTo_all] at h
  unfold Kn.at at h
  rw [knTo_get hs, if_pos hs] at h
  have h : entOf rl now s = some e := h
  unfold entOf at h
  cases q : recAt rl s with
  | none => rw [q] at h; cases h
  | some r =>
    rw [q] at h
    have h : (if isBest rl s = true then some (⟨r, now, now, 1⟩ : Ent) else none) = some e := h
    by_cases z : isBest rl s = true
    · rw [if_pos z] at h
      exact ⟨hs, r, rfl, z, (Option.some.inj h).symm⟩
    · rw [if_neg z] at h
      cases h
theorem knOf_uq (rl : List (Option Rec)) (now : Int) : Uq (knOf rl now) := fun s s' e e' h h' hb => by
  obtain ⟨_, r, h1, h2, rfl⟩ := knOf_at h
  obtain ⟨_, r', h1', h2', rfl⟩ := knOf_at h'
  rw [isBest_eq h1] at h2
  rw [isBest_eq h1'] at h2'
  have a1 := of_decide_eq_true (Bool.and_eq_true_iff.mp h2).2
  have a2 := of_decide_eq_true (Bool.and_eq_true_iff.mp h2').2
  have hb : r.b = r'.b := hb
  rw [hb, a2] at a1
  exact (Option.some.inj a1).symm
theorem knOf_kb {rl : List (Option Rec)} {now : Int} {nb : Nat} (h : ∀ s r, recAt rl s = some r → r.b < nb) : KB nb (knOf rl now) := fun s e he => by
  obtain ⟨_, r, h1, _, rfl⟩ := knOf_at he
  exact h s r h1
section
variable {P : Program} {w : World} {K : PySem.W.Frag} {mg : Str → Option Value} {base : Heap}
def sp_restart (K : PySem.W.Frag) : Sp := Sp3 fun a b e H Q => ∃ (c : Cfg) (ρ : Ro) (p t1 t2 : Addr) (m : Mem) (D : Ds) (nb : Nat), a = .ref p ∧ b = .ref t1 ∧ e = .ref t2 ∧ H t1 = some (.tup []) ∧ H t2 = some (.tup []) ∧ PairAt K c ρ H p m D false ∧
  m.kn = nones D.fast.sy.length ∧ (∀ s r, recAt D.fast.sy s = some r → r.b < nb) ∧
  ∀ (ρ' : Ro) (H' : Hp) (q : Addr), PairAt K c ρ' H' p (restartM m D) (restartD D) true → Mv SP ρ H ρ' H' → ρ' q = 0 → H' q = some (.lst (natV (dirtyBlocks nb (restartM m D).kn))) → Q (.ref q) H'
theorem sc_P_restart : FnScope ["self", "slow_kept", "fast_kept", "many", "slot"] ["self", "slow_kept", "fast_kept"] (defScope s_P_restart) := ⟨rfl, rfl, rfl, by decide +kernel, rfl, by decide +kernel, by decide +kernel⟩
theorem m_P_restart (T : Txt K mg) : C8.Met P w K mg base 6 (He.ga K "Pair") "restart" (sp_restart K) [] := by
  refine met_of T.F_P_restart T.cl_Pair T.mt_Pair_restart sc_P_restart len3 (fun _ _ _ _ _ _ us hl => match us, hl with | [_, _, _], _ => rfl) (fun cdv A outer s H vs Q E hr h => ?_)
  obtain ⟨a, b, e, rfl, c, ρ, p, t1, t2, m, D, nb, rfl, rfl, rfl, ht1, ht2, ⟨A, h⟩, hkn, hrb, k⟩ := h
  obtain ⟨dn, ho⟩ := h.obj
  obtain ⟨dx, Ls, hd, rd, hs⟩ := h.slow
  obtain ⟨dxf, Lf, hdf, rdf, hf⟩ := h.fast
  obtain ⟨w1, hw1, _⟩ := hs.wt
  obtain ⟨w2, hw2, _⟩ := hf.wt
  refine ⟨_, pss_cons (ps_if (pt_val (pe_fld (pv 0) rfl)) (pss_one (ps_never)) (pss_nil))
      (pss_cons (ps_set (i := 3) sc_P_restart.nd rfl (.inl rfl) (pe_ifExp (pt_cmpR op_isN (pe_fld (pv 0) rfl) (pe_non) (nomark _)) (pe_int) (pe_callB call_len_seq (by rfl) T.f_len (by decide +kernel) (pa_cons (pe_fld (pe_fld (pv 0) rfl) rfl) pa_nil))))
      (pss_cons (ps_if (PW.pt (pw_or (pt_not (pt_val (C8.pe_c (c_P_are_ascending T) hr (by decide) rfl (pa_cons (pv 1) (pa_cons (pe_callB call_len_seq (by rfl) T.f_len (by decide +kernel) (pa_cons (pe_fld (pe_fld (pv 0) rfl) rfl) pa_nil)) pa_nil))))) (pw_or1 (pt_not (pt_val (C8.pe_c (c_P_are_ascending T) hr (by decide) rfl (pa_cons (pv 2) (pa_cons (pv 3) pa_nil)))))))) (pss_one (ps_never)) (pss_nil))
      (pss_cons (ps_expr (C8.pe_mt (m_D_fail T) hr (by decide) (pe_fld (pv 0) rfl) (pa_cons (pv 1) pa_nil)))
      (pss_cons (ps_fld (pv 0) (pe_bl) rfl)
      (pss_cons (ps_fld (pv 0) (pe_int) rfl)
      (pss_cons (ps_if (pt_cmpR op_notN (pe_fld (pv 0) rfl) (pe_non) (nomark _)) (pss_cons (ps_expr (C8.pe_mt (m_D_fail T) hr (by decide) (pe_fld (pv 0) rfl) (pa_cons (pv 2) pa_nil)))
      (pss_one (ps_expr (C8.pe_mt (m_P_learn T) hr (by decide) (pv 0) (pa_cons (pe_lc (own := [("slot", 4)]) (by rfl) sc_P_restart.nd (g := gName 4) (pi_range1 rfl T.f_range (pa_cons (pe_callB call_len_seq (by rfl) T.f_len (by decide +kernel) (pa_cons (pe_fld (pe_fld (pv 0) rfl) rfl) pa_nil)) pa_nil)) (blkOk_by (own := [("slot", 4)]) (N := ["self", "slow_kept", "fast_kept", "many", "slot"]) (sc := defScope s_P_restart) (by decide +kernel)) (fun _ _ _ _ _ => pg_name (i := 4) sc_P_restart.nd rfl (.inl rfl) (.inr rfl)) (fun _ _ _ _ _ => pts_nil) (fun _ _ _ _ _ => C8.pe_mt (m_D_read T) hr (by decide) (fieldK rfl (pv 0) rfl) (pa_cons (pv 4) pa_nil))) pa_nil))))) (pss_nil))
      (pss_one (ps_ret (pe_pr (p_P_dirty T) hr (by decide) (pv 0)))))))))), ?_⟩
  refine ⟨_, rfl, p, _, A.dx, _, _, rfl, ho, T.cl_Pair, T.na_Pair_is_powered, rfl, _, rfl, iteF ?_⟩
  refine ⟨_, rfl, p, _, A.dx, _, _, rfl, ho, T.cl_Pair, T.na_Pair_fast, rfl, rfl, _, rfl, ite_ff (by simp) ?_⟩
  refine ⟨_, rfl, p, _, A.dx, _, _, rfl, ho, T.cl_Pair, T.na_Pair_fast, rfl, A.df, _, dxf, _, _, rfl, hdf, T.cl_Disk, T.na_Disk_waiting, rfl, _, _, rfl, .inl (SqL.of hw2), ?_⟩
  refine ⟨_, rfl, _, rfl, p, _, A.dx, _, _, rfl, ho, T.cl_Pair, T.na_Pair_slow, rfl, A.ds, _, dx, _, _, rfl, hd, T.cl_Disk, T.na_Disk_waiting, rfl, _, _, rfl, .inl (SqL.of hw1), ?_⟩
  refine ⟨_, _, rfl, t1, _, ρ, rfl, rfl, ht1, fun ρ1 H1 m1 => ⟨true, rfl, iteF ?_⟩⟩
  refine ⟨_, rfl, _, rfl, _, _, rfl, t2, _, ρ1, rfl, rfl, m1.tups _ _ ht2, fun ρ2 H2 m2 => ⟨true, rfl, iteF ?_⟩⟩
  have m12 := m1.trans m2
  have h2 := h.mv0 m12
  obtain ⟨dn2, ho2⟩ := h2.obj
  obtain ⟨dx2, Ls2, hd2, rd2, hs2⟩ := h2.slow
  refine ⟨_, rfl, p, _, A.dx, _, _, rfl, ho2, T.cl_Pair, T.na_Pair_slow, rfl, A.ds, dx2, _, rfl, hd2, rfl, _, rfl, ?_⟩
  refine ⟨_, _, rfl, Int, cI, 1010, ρ2, A.ds, t1, D.slow, rfl, rfl, m12.tups _ _ ht1, ⟨dx2, Ls2, hd2, rd2, hs2⟩, fun ρ3 H3 gd3 m3 => ?_⟩
  have h3 := h2.slow' gd3 m3
  obtain ⟨dn3, ho3⟩ := h3.obj
  refine ⟨_, rfl, p, _, A.dx, _, rfl, ho3, T.cl_Pair, T.na_Pair_is_powered, (show (13 : Nat) < 1000 by decide), ?_⟩
  obtain ⟨h4, m4⟩ := h3.obj' m.turn m.begun m.hits true dn3
  refine ⟨_, rfl, p, _, A.dx, _, rfl, upd_same, T.cl_Pair, T.na_Pair_turn, (show (13 : Nat) < 1000 by decide), ?_⟩
  obtain ⟨h5, m5⟩ := h4.obj' 1 m.begun m.hits true dn3
  have ho5 : upd (upd H3 p (.ins (He.ga K "Pair") A.dx (pairF A m.turn m.begun m.hits true dn3))) p (.ins (He.ga K "Pair") A.dx (pairF A 1 m.begun m.hits true dn3)) p = some (.ins (He.ga K "Pair") A.dx (pairF A 1 m.begun m.hits true dn3)) := upd_same
  refine ⟨_, rfl, p, _, A.dx, _, _, rfl, ho5, T.cl_Pair, T.na_Pair_fast, rfl, rfl, _, rfl, ite_tt (nn_ref _) ?_⟩
  have m35 := (m3.mono (S' := SP) (sd_sp (by decide) (by decide))).trans ((m4.mono (s1_sp (by decide) (by decide))).trans (m5.mono (s1_sp (by decide) (by decide))))
  have m05 := (m12.mono (S' := SP) s0_sp).trans m35
  obtain ⟨dx5, Lf5, hd5, rd5, hf5⟩ := h5.fast
  refine ⟨_, rfl, p, _, A.dx, _, _, rfl, ho5, T.cl_Pair, T.na_Pair_fast, rfl, A.df, dx5, _, rfl, hd5, rfl, _, rfl, ?_⟩
  refine ⟨_, _, rfl, Option Rec, cR, 1020, ρ3, A.df, t2, D.fast, rfl, rfl, m05.tups _ _ ht2, ⟨dx5, Lf5, hd5, rd5, hf5⟩, fun ρ6 H6 gd6 m6 => ?_⟩
  have h6 := h5.fast' gd6 m6
  have m06 := m05.trans (m6.mono (sd_sp (by decide) (by decide)))
  obtain ⟨dn6, ho6⟩ := h6.obj
  obtain ⟨dx6, Lf6, hd6, rd6, hf6⟩ := h6.fast
  obtain ⟨vs6, hv6, q6⟩ := hf6.sh
  have hl6 : D.fast.sy.length = vs6.length := q6.len
  have hk8 := h.kn.1
  rw [hkn] at hk8
  have hk8 : D.fast.sy.length ≤ 8 := by unfold nones at hk8; rw [List.length_replicate] at hk8; exact hk8
  refine ⟨_, rfl, p, A.dx, _, rfl, ho6, rfl, ?_⟩
  refine ⟨_, rfl, p, _, A.dx, _, _, rfl, ho6, T.cl_Pair, T.na_Pair_fast, rfl, A.df, _, dx6, _, _, rfl, hd6, T.cl_Disk, T.na_Disk_shown, rfl, _, _, rfl, .inl (SqL.of hv6), _, rfl, by omega, by omega, fun D' hD => ?_⟩
  refine lc_it (Qd := fun H' => _) (walk_range0 (n := vs6.length)) (fun i H' => ∃ ρ' ys, PairAt K c ρ' H' p ⟨m.kn, 1, m.begun, m.hits⟩ ⟨D.slow.fail0, { D.fast.fail0 with tr := D.fast.tr + i }⟩ true ∧ Mv SP ρ6 H6 ρ' H' ∧ H' D' = some (.lst ys) ∧ ρ' D' = 0 ∧ All cR H' (D.fast.sy.take i) ys)
    ⟨_, [], ?_, Mv.refl.new hD 0 _, upd_same, rs_same, .nil⟩ (fun i H' _ _ => trivial) (fun i x H7 H8 hi ⟨ρ7, ys, ⟨A7, g7⟩, m7, hy, r0, ha⟩ y => ?_) (fun H7 ⟨ρ7, ys, ⟨A7, g7⟩, m7, hy, r0, ha⟩ => ?_)
  · refine ⟨A, ?_⟩
    have z := h6.mv0 (Mv.refl.new hD 0 (.lst []))
    rw [show ({ D.fast.fail0 with tr := D.fast.tr + ((0 : Nat) : Int) } : Dk (Option Rec)) = D.fast.fail0 from by rw [show D.fast.tr + ((0 : Nat) : Int) = D.fast.tr from Int.add_zero _]; rfl]
    exact z
  · obtain ⟨rfl, rfl⟩ := y
    have hir : i < D.fast.sy.length := by omega
    have hx : D.fast.sy[i]? = some D.fast.sy[i] := List.getElem?_eq_getElem hir
    obtain ⟨dn7, ho7⟩ := g7.obj
    obtain ⟨dx7, L7, hd7, rd7, hf7⟩ := g7.fast
    refine ⟨rfl, ?_⟩
    refine ⟨_, rfl, p, _, A7.dx, _, _, rfl, ho7, T.cl_Pair, T.na_Pair_fast, rfl, A7.df, dx7, _, rfl, hd7, rfl, _, rfl, ?_⟩
    refine ⟨_, _, rfl, Option Rec, cR, 1020, ρ7, A7.df, _, i, D.fast.sy[i], rfl, rfl, ⟨dx7, L7, hd7, rd7, hf7⟩, hx, fun H9 v g9 hv m9 => ?_⟩
    have hy9 := m9.keeps hy r0 (sdN (by decide))
    have r9 := m9.ro hy r0
    have h9 := g7.fast' g9 m9
    have hl := ha.len
    rw [List.length_take] at hl
    refine ⟨ys, hy9, Nat.lt_of_lt_of_le (show ys.length < 9 by omega) (by decide), ρ7, ys ++ [v], ⟨A7, ?_⟩, (m7.trans (m9.mono (sd_sp (by decide) (by decide)))).wr hy9 (fun xs z => by cases z) (.inl hD) _, upd_same, r9, ?_⟩
    · have w1 : Mv (S1 0) ρ7 H9 ρ7 (upd H9 D' (.lst (ys ++ [v]))) := Mv.refl.wr hy9 (fun xs z => by cases z) (.inr r9) _
      have z := h9.mvR w1 fun j z1 z2 => s1N (by omega)
      have e : ({ D.fast.fail0 with tr := D.fast.tr + ((i + 1 : Nat) : Int) } : Dk (Option Rec)) = ({ D.fast.fail0 with tr := D.fast.tr + (i : Int) } : Dk (Option Rec)).read := by
        show _ = ({ D.fast.fail0 with tr := D.fast.tr + (i : Int) + 1 } : Dk (Option Rec))
        rw [show D.fast.tr + ((i + 1 : Nat) : Int) = D.fast.tr + (i : Int) + 1 from by omega]
      rw [e]
      exact z
    · have kk : ∀ b zs, H9 b = some (.tup zs) → upd H9 D' (.lst (ys ++ [v])) b = some (.tup zs) := fun b zs q => (upd_ne (ne_of q hy9 (by intro z; cases z))).trans q
      rw [List.take_succ, hx]
      exact All.snoc (c := cR) (cR.mono kk hv) ((ha.mono m9.tups).mono kk)
  · rw [← hl6, List.take_length] at ha
    rw [← hl6] at g7
    have hnn : m.kn = nones D.fast.sy.length := hkn
    refine ⟨_, _, rfl, c, ρ7, p, D', _, _, true, D.fast.sy, ys, rfl, rfl, ⟨A7, g7⟩, hy, ha, r0, hnn, rfl, rfl, rfl, fun ρ8 H8 ⟨A8, g8⟩ m8 => ?_⟩
    obtain ⟨dn8, ho8⟩ := g8.obj
    refine ⟨_, rfl, p, A8.dx, _, rfl, ho8, ?_⟩
    refine ⟨_, rfl, c, ρ8, p, _, _, nb, rfl, ⟨A8, g8⟩, knOf_uq _ _, knOf_kb hrb, fun ρ9 H9 q m9 r9 hq => ?_⟩
    refine k ρ9 H9 q ⟨A8, g8.mv0 m9⟩ (((m06.trans m7).trans m8).trans (m9.mono s0_sp)) r9 hq
end
end Kb
set_option Elab.async false
set_option linter.all false
set_option maxRecDepth 100000
set_option maxHeartbeats 4000000
namespace Kb
open PySem PySem.Spec PyProof.Rows L2
theorem objStep {ρ : Ro} {H : Hp} {p C dx : Addr} {fs : List (Str × V)} (hp : H p = some (.ins C dx fs)) (rp : ρ p = 1000) (fs' : List (Str × V)) : Mv (S1 1000) ρ H ρ (upd H p (.ins C dx fs')) := Mv.refl.wr hp (fun xs z => by cases z) (.inr rp) _
structure BP (K : PySem.W.Frag) (c : Cfg) (ρ0 : Ro) (H0 : Hp) (ρ : Ro) (H : Hp) (p dx x1 x3 ra oa : Addr) (nb ns : Nat) (fs : List (Str × V)) (L : List (Addr × HO × Nat)) : Prop where
  hp : H p = some (.ins (He.ga K "Pair") dx fs)
  rp : ρ p = 1000
  ru : RulesAt K ρ H ra c
  od : RecsAt K ρ H oa c
  d : DiskAt K cI 1010 ρ H x1 (Dk.new nb (0 : Int))
  e : DiskAt K cR 1020 ρ H x3 (Dk.new ns (none : Option Rec))
  m : Mv SP ρ0 H0 ρ H
  l : ∀ t ∈ L, H t.1 = some t.2.1 ∧ ρ t.1 = t.2.2 ∧ t.2.2 ≠ 1000
section
variable {K : PySem.W.Frag} {c : Cfg} {ρ0 ρ : Ro} {H0 H : Hp} {p dx x1 x3 ra oa : Addr} {nb ns : Nat} {fs : List (Str × V)} {L : List (Addr × HO × Nat)}
theorem BP.obj (h : BP K c ρ0 H0 ρ H p dx x1 x3 ra oa nb ns fs L) (fs' : List (Str × V)) : BP K c ρ0 H0 ρ (upd H p (.ins (He.ga K "Pair") dx fs')) p dx x1 x3 ra oa nb ns fs' L := by
  have s := objStep h.hp h.rp fs'
  exact ⟨upd_same, h.rp, h.ru.mv s (s1N (by decide)), h.od.mv s (s1N (by decide)), h.d.mv s fun i hi => s1N (by omega), h.e.mv s fun i hi => s1N (by omega), h.m.trans (s.mono (s1_sp (by decide) (by decide))), fun t ht => let ⟨z1, z2, z3⟩ := h.l t ht; ⟨s.keeps z1 z2 (s1N z3), z2, z3⟩⟩
theorem BP.new (h : BP K c ρ0 H0 ρ H p dx x1 x3 ra oa nb ns fs L) {q : Addr} (hq : H q = none) (k : Nat) (o : HO) : BP K c ρ0 H0 (rs ρ q k) (upd H q o) p dx x1 x3 ra oa nb ns fs L := by
  have s : Mv S0 ρ H (rs ρ q k) (upd H q o) := Mv.refl.new hq k o
  exact ⟨s.at0 h.hp, s.ro h.hp h.rp, h.ru.mv s fun z => z, h.od.mv s fun z => z, h.d.mv s fun i hi z => z, h.e.mv s fun i hi z => z, h.m.trans (s.mono s0_sp), fun t ht => let ⟨z1, z2, z3⟩ := h.l t ht; ⟨s.at0 z1, s.ro z1 z2, z3⟩⟩
theorem BP.add (h : BP K c ρ0 H0 ρ H p dx x1 x3 ra oa nb ns fs L) {q : Addr} (hq : H q = none) (k : Nat) (hk : k ≠ 1000) (o : HO) : BP K c ρ0 H0 (rs ρ q k) (upd H q o) p dx x1 x3 ra oa nb ns fs ((q, o, k) :: L) := by
  have b := h.new hq k o
  refine ⟨b.hp, b.rp, b.ru, b.od, b.d, b.e, b.m, fun t ht => ?_⟩
  rcases List.mem_cons.mp ht with z | z
  · rw [z]
    exact ⟨upd_same, rs_same, hk⟩
  · exact b.l t z
end
section
variable {P : Program} {w : World} {K : PySem.W.Frag} {mg : Str → Option Value} {base : Heap}
def sp_P_init (K : PySem.W.Frag) : Sp := Sp5 fun a b d e g H Q => ∃ (c : Cfg) (ρ : Ro) (p dx ra oa : Addr) (nb ns : Nat), a = .ref p ∧ b = .int (nb : Int) ∧ d = .int (ns : Int) ∧ e = .ref ra ∧ g = .ref oa ∧ RulesAt K ρ H ra c ∧ RecsAt K ρ H oa c ∧ H p = some (.ins (He.ga K "Pair") dx []) ∧ ρ p = 1000 ∧ 1 ≤ nb ∧ nb ≤ 16 ∧ 1 ≤ ns ∧ ns ≤ 8 ∧
  ∀ (ρ' : Ro) (H' : Hp), PairAt K c ρ' H' p ⟨nones ns, 1, 0, 0⟩ ⟨Dk.new nb 0, Dk.new ns none⟩ true → Mv SP ρ H ρ' H' → Q .non H'
theorem sc_P_init : FnScope ["self", "blocks", "slots", "rules", "recipes"] ["self", "blocks", "slots", "rules", "recipes"] (defScope s_P_init) := ⟨rfl, rfl, rfl, by decide +kernel, rfl, by decide +kernel, by decide +kernel⟩
theorem f_P_init (T : Txt K mg) : FnOk P w K mg base CX0 5 (He.ma K (He.ga K "Pair") "__init__") (fdOf K (He.ma K (He.ga K "Pair") "__init__")) ["self", "blocks", "slots", "rules", "recipes"] ((sp_P_init K)) := by
  refine fn_ok T.F_P_init sc_P_init len5 (fun cdv A outer s H vs Q E hr h => ?_)
  obtain ⟨a, b, d, e, g, rfl, c, ρ, p, dx, ra, oa, nb, ns, rfl, rfl, rfl, rfl, rfl, hru, hor, hp, rp, b1, b2, n1, n2, k⟩ := h
  obtain ⟨mv, kbDisk⟩ := kb_D_init T
  refine ⟨_, pss_cons (ps_expr (C8.pe_c (c_P_check_sizes T) hr (by decide) rfl (pa_cons (pv 1) (pa_cons (pv 2) pa_nil))))
      (pss_cons (ps_fld (pv 0) (C8.pe_mk (k_D_init T) hr (by decide) rfl (pa_cons (pv 1) pa_nil)) rfl)
      (pss_cons (ps_fld (pv 0) (pe_makeK (n := 1) T.mk_Disk (f_D_init T) (hr.mono (by decide)) rfl T.g_Disk kbDisk pass0 (pa_cons (pv 2) pa_nil) (pk_cons (pe_non) pk_nil)) rfl)
      (pss_cons (ps_fld (pv 0) (pe_op op_rep (pe_lst (pa_cons (pe_int) pa_nil)) (pe_int)) rfl)
      (pss_cons (ps_fld (pv 0) (pv 3) rfl)
      (pss_cons (ps_fld (pv 0) (pe_ifExp (pt_cmpR op_isN (pv 4) (pe_non) (nomark _)) (pe_no) (pv 4)) rfl)
      (pss_cons (ps_fld (pv 0) (pe_dnewK) rfl)
      (pss_cons (ps_fld (pv 0) (pe_int) rfl)
      (pss_cons (ps_fld (pv 0) (pe_int) rfl)
      (pss_cons (ps_fld (pv 0) (pe_int) rfl)
      (pss_cons (ps_fld (pv 0) (pe_non) rfl)
      (pss_cons (ps_fld (pv 0) (pe_bl) rfl)
      (pss_cons (ps_fld (pv 0) (pe_bl) rfl)
      (pss_one (ps_fld (pv 0) (pe_op op_rep (pe_lst (pa_cons (pe_int) pa_nil)) (pv 2)) rfl)))))))))))))), ?_⟩
  refine ⟨_, rfl, _, rfl, _, _, _, _, rfl, (nb : Int), (ns : Int), 16, 8, rfl, rfl, rfl, rfl, by omega, by omega, by omega, by omega, ?_⟩
  -- slow
  refine ⟨_, rfl, fun x1 dx1 hx1 hdx1 hne1 => ?_⟩
  have ma : Mv S0 ρ H _ _ := (Mv.refl.new hdx1 0 (.own x1)).new ((upd_ne (Ne.symm hne1)).trans hx1) 1010 (.ins (He.ga K "Disk") dx1 [])
  refine ⟨_, _, _, rfl, Int, cI, 1010, rs (rs ρ dx1 0) x1 1010, x1, dx1, nb, 0, rfl, rfl, rfl, upd_same, rs_same, b1, by omega, fun ρ1 H1 d1 mb => ⟨rfl, ?_⟩⟩
  have m1 : Mv (SD 1010) ρ H ρ1 H1 := (ma.mono s0_sp).trans mb
  have hp1 := m1.keeps hp rp (sdN (by decide))
  have rp1 := m1.ro hp rp
  have hru1 := hru.mv m1 (sdN (by decide))
  have hor1 := hor.mv m1 (sdN (by decide))
  refine ⟨_, rfl, p, _, dx, _, rfl, hp1, T.cl_Pair, T.na_Pair_slow, (show (0 : Nat) < 1000 by decide), ?_⟩
  have s2 := objStep hp1 rp1 [("slow", .ref x1)]
  have d2 := d1.mv s2 fun i hi => s1N (by omega)
  have hru2 := hru1.mv s2 (s1N (by decide))
  have hor2 := hor1.mv s2 (s1N (by decide))
  have hp2 : upd H1 p (.ins (He.ga K "Pair") dx [("slow", .ref x1)]) p = some (.ins (He.ga K "Pair") dx [("slow", .ref x1)]) := upd_same
  have m2 := (m1.mono (S' := SP) (sd_sp (by decide) (by decide))).trans (s2.mono (s1_sp (by decide) (by decide)))
  -- fast
  refine ⟨_, rfl, rfl, rfl, fun x3 dx3 hx3 hdx3 hne3 => ?_⟩
  have mc : Mv S0 ρ1 _ _ _ := (Mv.refl.new hdx3 0 (.own x3)).new ((upd_ne (Ne.symm hne3)).trans hx3) 1020 (.ins (He.ga K "Disk") dx3 [])
  refine ⟨_, _, _, rfl, Option Rec, cR, 1020, rs (rs ρ1 dx3 0) x3 1020, x3, dx3, ns, none, rfl, rfl, rfl, upd_same, rs_same, n1, by omega, fun ρ3 H3 e3 md => ⟨rfl, ?_⟩⟩
  have s3 : Mv (SD 1020) ρ1 (upd H1 p (.ins (He.ga K "Pair") dx [("slow", .ref x1)])) ρ3 H3 := (mc.mono s0_sp).trans md
  have hp3 := s3.keeps hp2 rp1 (sdN (by decide))
  have rp3 := s3.ro hp2 rp1
  have d3 := d2.mv s3 fun i hi => sdN (by omega)
  have hru3 := hru2.mv s3 (sdN (by decide))
  have hor3 := hor2.mv s3 (sdN (by decide))
  have m3 := m2.trans (s3.mono (sd_sp (by decide) (by decide)))
  refine ⟨_, rfl, p, _, dx, _, rfl, hp3, T.cl_Pair, T.na_Pair_fast, (show (1 : Nat) < 1000 by decide), ?_⟩
  have s4 := objStep hp3 rp3 [("slow", .ref x1), ("fast", .ref x3)]
  have hp4 : upd H3 p (.ins (He.ga K "Pair") dx [("slow", .ref x1), ("fast", .ref x3)]) p = some (.ins (He.ga K "Pair") dx [("slow", .ref x1), ("fast", .ref x3)]) := upd_same
  have d4 := d3.mv s4 fun i hi => s1N (by omega)
  have e4 := e3.mv s4 fun i hi => s1N (by omega)
  have hru4 := hru3.mv s4 (s1N (by decide))
  have hor4 := hor3.mv s4 (s1N (by decide))
  have m4 := m3.trans (s4.mono (s1_sp (by decide) (by decide)))
  have bp : BP K c ρ H ρ3 _ p dx x1 x3 ra oa nb ns _ [] := ⟨hp4, rp3, hru4, hor4, d4, e4, m4, fun t ht => absurd ht List.not_mem_nil⟩
  -- past
  refine ⟨(show (1 : Nat) ≤ sizeLine by decide), fun q5 hq5 => ⟨q5, 6, _, rfl, rfl, upd_same, by decide, by decide, (show (6 : Nat) ≤ sizeLine by decide), fun q6 hq6 => ?_⟩⟩
  have bp := (bp.new hq5 0 (.lst [.int 0])).add hq6 1001 (by decide) (.lst [.int 0, .int 0, .int 0, .int 0, .int 0, .int 0])
  refine ⟨_, rfl, p, _, dx, _, rfl, bp.hp, T.cl_Pair, T.na_Pair_past, (show (2 : Nat) < 1000 by decide), ?_⟩
  have bp := bp.obj [("slow", .ref x1), ("fast", .ref x3), ("past", .ref q6)]
  refine ⟨_, rfl, _, rfl, p, _, dx, _, rfl, bp.hp, T.cl_Pair, T.na_Pair_rule, (show (3 : Nat) < 1000 by decide), ?_⟩
  have bp := bp.obj [("slow", .ref x1), ("fast", .ref x3), ("past", .ref q6), ("rule", .ref ra)]
  refine ⟨_, rfl, rfl, _, rfl, ite_ff (by simp) ⟨_, rfl, _, rfl, p, _, dx, _, rfl, bp.hp, T.cl_Pair, T.na_Pair_order, (show (4 : Nat) < 1000 by decide), ?_⟩⟩
  have bp := bp.obj [("slow", .ref x1), ("fast", .ref x3), ("past", .ref q6), ("rule", .ref ra), ("order", .ref oa)]
  refine fun q9 hq9 => ?_
  have bp := bp.add hq9 1030 (by decide) (.dK [])
  refine ⟨_, rfl, p, _, dx, _, rfl, bp.hp, T.cl_Pair, T.na_Pair_slots, (show (5 : Nat) < 1000 by decide), ?_⟩
  have bp := bp.obj [("slow", .ref x1), ("fast", .ref x3), ("past", .ref q6), ("rule", .ref ra), ("order", .ref oa), ("slots", .ref q9)]
  refine ⟨_, rfl, p, _, dx, _, rfl, bp.hp, T.cl_Pair, T.na_Pair_turn, (show (6 : Nat) < 1000 by decide), ?_⟩
  have bp := bp.obj [("slow", .ref x1), ("fast", .ref x3), ("past", .ref q6), ("rule", .ref ra), ("order", .ref oa), ("slots", .ref q9), ("turn", .int 1)]
  refine ⟨_, rfl, p, _, dx, _, rfl, bp.hp, T.cl_Pair, T.na_Pair_begun, (show (7 : Nat) < 1000 by decide), ?_⟩
  have bp := bp.obj [("slow", .ref x1), ("fast", .ref x3), ("past", .ref q6), ("rule", .ref ra), ("order", .ref oa), ("slots", .ref q9), ("turn", .int 1), ("begun", .int 0)]
  refine ⟨_, rfl, p, _, dx, _, rfl, bp.hp, T.cl_Pair, T.na_Pair_found, (show (8 : Nat) < 1000 by decide), ?_⟩
  have bp := bp.obj [("slow", .ref x1), ("fast", .ref x3), ("past", .ref q6), ("rule", .ref ra), ("order", .ref oa), ("slots", .ref q9), ("turn", .int 1), ("begun", .int 0), ("found", .int 0)]
  refine ⟨_, rfl, p, _, dx, _, rfl, bp.hp, T.cl_Pair, T.na_Pair_left, (show (9 : Nat) < 1000 by decide), ?_⟩
  have bp := bp.obj [("slow", .ref x1), ("fast", .ref x3), ("past", .ref q6), ("rule", .ref ra), ("order", .ref oa), ("slots", .ref q9), ("turn", .int 1), ("begun", .int 0), ("found", .int 0), ("left", .non)]
  refine ⟨_, rfl, p, _, dx, _, rfl, bp.hp, T.cl_Pair, T.na_Pair_is_powered, (show (10 : Nat) < 1000 by decide), ?_⟩
  have bp := bp.obj [("slow", .ref x1), ("fast", .ref x3), ("past", .ref q6), ("rule", .ref ra), ("order", .ref oa), ("slots", .ref q9), ("turn", .int 1), ("begun", .int 0), ("found", .int 0), ("left", .non), ("is_powered", .bl true)]
  refine ⟨_, rfl, p, _, dx, _, rfl, bp.hp, T.cl_Pair, T.na_Pair_is_done, (show (11 : Nat) < 1000 by decide), ?_⟩
  have bp := bp.obj [("slow", .ref x1), ("fast", .ref x3), ("past", .ref q6), ("rule", .ref ra), ("order", .ref oa), ("slots", .ref q9), ("turn", .int 1), ("begun", .int 0), ("found", .int 0), ("left", .non), ("is_powered", .bl true), ("is_done", .bl false)]
  refine ⟨(show (1 : Nat) ≤ sizeLine by decide), fun q17 hq17 => ⟨_, rfl, q17, (ns : Int), _, rfl, rfl, upd_same, by omega, by omega, by unfold sizeLine; rw [Int.toNat_natCast, List.length_singleton]; omega, fun q18 hq18 => ?_⟩⟩
  rw [Int.toNat_natCast, rep_flat (V.int 0) ns]
  have bp := (bp.new hq17 0 (.lst [.int 0])).add hq18 1002 (by decide) (.lst (List.replicate ns (.int 0)))
  refine ⟨_, rfl, p, _, dx, _, rfl, bp.hp, T.cl_Pair, T.na_Pair_writes, (show (12 : Nat) < 1000 by decide), ?_⟩
  have bp := bp.obj [("slow", .ref x1), ("fast", .ref x3), ("past", .ref q6), ("rule", .ref ra), ("order", .ref oa), ("slots", .ref q9), ("turn", .int 1), ("begun", .int 0), ("found", .int 0), ("left", .non), ("is_powered", .bl true), ("is_done", .bl false), ("writes", .ref q18)]
  obtain ⟨l1, l2, _⟩ := bp.l _ List.mem_cons_self
  obtain ⟨l3, l4, _⟩ := bp.l _ (List.mem_cons_of_mem _ List.mem_cons_self)
  obtain ⟨l5, l6, _⟩ := bp.l _ (List.mem_cons_of_mem _ (List.mem_cons_of_mem _ List.mem_cons_self))
  exact k _ _ ⟨⟨dx, x1, x3, q6, ra, oa, q9, q18⟩, ⟨_, bp.hp⟩, bp.rp, l5, l6, ⟨List.replicate ns 0, by show _ = (nones ns).length; unfold nones; rw [List.length_replicate, List.length_replicate], by rw [List.map_replicate]; exact l1⟩, l2, bp.ru, bp.od, bp.d, bp.e, ⟨by show (nones ns).length ≤ 8; unfold nones; rw [List.length_replicate]; exact n2, _, _, know_nil l3 l4⟩⟩ bp.m
end
end Kb
set_option Elab.async false
set_option linter.all false
set_option maxRecDepth 100000
set_option maxHeartbeats 4000000
namespace Kb
open PySem PySem.Spec PyProof.Rows L2
/-- the law's source of numbers -/
def DAt (ρ : Ro) (H : Hp) (d : Addr) : Prop := ∃ ds : List Int, H d = some (.lst (ds.map V.int)) ∧ ρ d = 3000 ∧ 2 ≤ ds.length
theorem DAt.mv {S : Nat → Prop} {ρ ρ' : Ro} {H H' : Hp} {d : Addr} (h : DAt ρ H d) (m : Mv S ρ H ρ' H') (n : ¬ S 3000) : DAt ρ' H' d := let ⟨ds, h1, h2, h3⟩ := h; ⟨ds, m.keeps h1 h2 n, m.ro h1 h2, h3⟩
abbrev SL : Nat → Prop := S1 3000
theorem sqL_mv {K : PySem.W.Frag} {ρ ρ' : Ro} {H H' : Hp} {a : Addr} {xs : List V} (h : SqL K H a xs) (m : Mv S0 ρ H ρ' H') : SqL K H' a xs := by
  rcases h with (h | ⟨o, h⟩) | h
  · exact .inl (.inl (m.at0 h))
  · exact .inl (.inr ⟨o, m.at0 h⟩)
  · exact .inr h
theorem fmod_in {x : Int} {l : Nat} (h : 1 ≤ l) : ∃ r : Nat, x.fmod (l : Int) = (r : Int) ∧ r < l := by
  have h1 : 0 ≤ x.fmod (l : Int) := Int.fmod_nonneg_of_pos x (by omega)
  have h2 : x.fmod (l : Int) < (l : Int) := Int.fmod_lt_of_pos x (by omega)
  exact ⟨(x.fmod l).toNat, by omega, by omega⟩
section
variable {P : Program} {w : World} {K : PySem.W.Frag} {mg : Str → Option Value} {base : Heap}
def sp_random (K : PySem.W.Frag) : Sp := Sp2 fun a b H Q => ∃ (l : Addr) (ns : List Int) (salt : Int) (ρ : Ro), a = .ref l ∧ b = .int salt ∧ SqL K H l (ns.map V.int) ∧ ns.length ≤ 63 ∧ 0 ≤ salt ∧ salt < 2147483647 ∧
  ∀ ρ' H' d, Mv S0 ρ H ρ' H' → DAt ρ' H' d → Q (.ref d) H'
theorem sc_L_random : FnScope ["_law_script", "_law_salt", "_law_seed", "_law_cell"] ["_law_script", "_law_salt"] (defScope s_L_random) := ⟨rfl, rfl, rfl, by decide +kernel, rfl, by decide +kernel, by decide +kernel⟩
theorem c_L_random (T : Txt K mg) : C8.Cal P w K mg base 1 "_law_random" (sp_random K) [] := by
  refine cal_of T.F_L_random T.g_Lrandom sc_L_random len2 (fun _ _ _ _ _ _ us hl => match us, hl with | [_, _], _ => rfl) (fun cdv A outer s H vs Q E hr h => ?_)
  obtain ⟨a, b, rfl, l, ns, salt, ρ, rfl, rfl, hl, hn, s0, s1, k⟩ := h
  refine ⟨_, pss_cons (ps_set (i := 2) sc_L_random.nd rfl (.inl rfl) (pv 1))
      (pss_cons (ps_for PassesOwn.never rfl (pi_list (pv 0)) (pg_name (i := 3) sc_L_random.nd rfl (.inl rfl)) (pss_one (ps_set (i := 2) sc_L_random.nd rfl (.inl rfl) (pe_op op_modN (pe_callTy call_int1 (by rfl) T.f_int (by decide +kernel) (pa_cons (pe_op op_add (pe_op op_mul (pv 2) (pe_int)) (pe_callB call_abs (by rfl) T.f_abs (by decide +kernel) (pa_cons (pv 3) pa_nil))) pa_nil)) (pe_int)))))
      (pss_one (ps_ret (pe_op op_cat (pe_lst (pa_cons (pv 2) (pa_cons (pe_int) pa_nil))) (pe_lc (own := [("_law_cell", 3)]) (by rfl) sc_L_random.nd (g := gName 3) (pi_list (pv 0)) (blkOk_by (own := [("_law_cell", 3)]) (N := ["_law_script", "_law_salt", "_law_seed", "_law_cell"]) (sc := defScope s_L_random) (by decide +kernel)) (fun _ _ _ _ _ => pg_name (i := 3) sc_L_random.nd rfl (.inl rfl) (.inr rfl)) (fun _ _ _ _ _ => pts_one (pt_cmpR op_ge (pv 3) (pe_op op_pow (pe_int) (pe_int)) (nomark _))) (fun _ _ _ _ _ => pv 3)))))), ?_⟩
  refine ⟨_, rfl, ?_⟩
  refine ⟨_, rfl, l, rfl, ⟨_, hl⟩, ?_⟩
  refine for_it (walk_list (xs := ns.map V.int)) (fun i σ H' => ∃ sd x, σ = [some (.ref l), some (.int salt), some (.int sd), x] ∧ H' = H ∧ 0 ≤ sd ∧ sd < 2147483647) ⟨salt, _, rfl, rfl, s0, s1⟩ (fun i σ H' _ ⟨_, _, _, e, _⟩ => by rw [e]; exact hl) (fun i x σ Hz H1 hi ⟨sd, x0, e0, e1, q1, q2⟩ y => ?_) (fun σ H1 ⟨sd, x0, e0, e1, q1, q2⟩ => ?_)
  · obtain ⟨rfl, hx⟩ := y
    subst e0
    subst e1
    rw [List.getElem?_map] at hx
    obtain ⟨z, hz, rfl⟩ : ∃ z, ns[i]? = some z ∧ x = .int z := by
      cases q : ns[i]? with
      | none => rw [q] at hx; cases hx
      | some z => rw [q] at hx; exact ⟨z, rfl, (Option.some.inj hx).symm⟩
    obtain ⟨r, hr1, hr2⟩ := fmod_in (x := sd * 31 + (if z < 0 then -z else z)) (l := 2147483647) (by decide)
    refine ⟨_, rfl, _, _, rfl, rfl, .inl ⟨by omega, by omega⟩, _, rfl, _, rfl, _, _, rfl, rfl, .inl ⟨_, rfl, _, _, rfl, rfl, (show (2147483647 : Int) ≠ 0 by decide), ?_⟩⟩
    exact ⟨_, _, rfl, rfl, by rw [show (2147483647 : Int) = ((2147483647 : Nat) : Int) from rfl, hr1]; omega, by rw [show (2147483647 : Int) = ((2147483647 : Nat) : Int) from rfl, hr1]; omega⟩
  · subst e0
    subst e1
    refine ⟨_, rfl, (show (2 : Nat) ≤ sizeLine by decide), fun q hq => ?_⟩
    have m0 : Mv S0 ρ H1 _ _ := Mv.refl.new hq 0 (.lst [.int sd, .int 0])
    have hq1 : upd H1 q (.lst [.int sd, .int 0]) q = some (.lst [.int sd, .int 0]) := upd_same
    refine ⟨_, rfl, l, rfl, ⟨_, sqL_mv hl m0⟩, fun D hD => lc_gen (ρ := rs ρ q 0) (walk_list (xs := ns.map V.int)) (by rw [List.length_map]; omega) cI (fun i => ns[i]?.bind fun z => if z ≥ 10 ^ 18 then some z else none) (fun ρ' H' m => sqL_mv hl (m0.trans m)) (fun i x ρ2 H2 H3 hi m2 y Ny Nn hNy hNn => ?_) hD fun ρ2 H2 ys m2 r0 hy ha => ?_⟩
    · obtain ⟨rfl, hx⟩ := y
      rw [List.getElem?_map] at hx
      obtain ⟨z, hz, rfl⟩ : ∃ z, ns[i]? = some z ∧ x = .int z := by
        cases q : ns[i]? with
        | none => rw [q] at hx; cases hx
        | some z => rw [q] at hx; exact ⟨z, rfl, (Option.some.inj hx).symm⟩
      refine ⟨rfl, _, rfl, _, _, rfl, rfl, ⟨by decide, by decide, by decide⟩, _, _, rfl, rfl, _, rfl, ?_⟩
      by_cases hz2 : z ≥ 10 ^ 18
      · exact ite_tt (decide_eq_true hz2) ⟨_, rfl, hNy _ _ _ z (by rw [hz]; exact if_pos hz2) rfl Mv.refl⟩
      · exact ite_ff (decide_eq_false hz2) (hNn _ _ (by rw [hz]; exact if_neg hz2) Mv.refl)
    · have hln := ha.len
      have hfl := filterMap_len (fun i => ns[i]?.bind fun z => if z ≥ 10 ^ 18 then some z else none) (List.range (ns.map V.int).length)
      rw [List.length_range, List.length_map] at hfl
      rw [List.length_map] at hln ha
      refine ⟨q, D, _, _, rfl, rfl, m2.at0 hq1, hy, by unfold sizeLine; rw [List.length_cons, List.length_cons, List.length_nil]; omega, fun d hd => ?_⟩
      rw [ints_of ha]
      refine k _ _ d ((m0.trans m2).new hd 3000 _) ⟨[sd, 0] ++ _, by rw [upd_same, List.map_append]; rfl, rs_same, by rw [List.length_append]; show 2 ≤ 2 + _; omega⟩
def safeN : Nat → List Wd
  | 0 => [.slow, .sslow, .fast, .sfast, .done]
  | 1 => [.fast, .sfast, .done, .free, .sfast]
  | 2 => [.slow, .sslow, .free, .sfast, .done]
  | _ => [.slow, .sslow, .mark, .sfast]
def sp_safe : Sp := Sp0 fun H Q => ∃ (ρ : Ro), ∀ ρ' H' q t0 t1 t2 t3, Mv S0 ρ H ρ' H' → H' q = some (.lst [.ref t0, .ref t1, .ref t2, .ref t3]) → H' t0 = some (.tup (wdV (safeN 0))) → H' t1 = some (.tup (wdV (safeN 1))) → H' t2 = some (.tup (wdV (safeN 2))) → H' t3 = some (.tup (wdV (safeN 3))) → Q (.ref q) H'
theorem sc_L_safe : FnScope ["_law_found"] [] (defScope s_L_safe) := ⟨rfl, rfl, rfl, by decide +kernel, rfl, by decide +kernel, by decide +kernel⟩
theorem c_L_safe (T : Txt K mg) : C8.Cal P w K mg base 1 "_law_safe" (sp_safe) [] := by
  refine cal_of T.F_L_safe T.g_Lsafe sc_L_safe len0 (fun _ _ _ _ _ _ us hl => match us, hl with | [], _ => rfl) (fun cdv A outer s H vs Q E hr h => ?_)
  obtain ⟨rfl, ρ, k⟩ := h
  refine ⟨_, pss_cons (ps_set (i := 0) sc_L_safe.nd rfl (.inl rfl) (pe_lst (pa_cons (pe_tup (pa_cons (pe_str) (pa_cons (pe_str) (pa_cons (pe_str) (pa_cons (pe_str) (pa_cons (pe_str) pa_nil)))))) (pa_cons (pe_tup (pa_cons (pe_str) (pa_cons (pe_str) (pa_cons (pe_str) (pa_cons (pe_str) (pa_cons (pe_str) pa_nil)))))) pa_nil))))
      (pss_cons (ps_expr (pe_bm PySem.F.plainAttrs_list PySem.F.slot_list_append PySem.F.type_list_append mt_append (pv 0) (pa_cons (pe_tup (pa_cons (pe_str) (pa_cons (pe_str) (pa_cons (pe_str) (pa_cons (pe_str) (pa_cons (pe_str) pa_nil)))))) pa_nil)))
      (pss_one (ps_ret (pe_op op_cat (pv 0) (pe_lst (pa_cons (pe_tup (pa_cons (pe_str) (pa_cons (pe_str) (pa_cons (pe_str) (pa_cons (pe_str) pa_nil))))) pa_nil)))))), ?_⟩
  refine ⟨(show (5 : Nat) ≤ sizeLine by decide), fun t0 h0 => ⟨(show (5 : Nat) ≤ sizeLine by decide), fun t1 h1 => ⟨(show (2 : Nat) ≤ sizeLine by decide), fun q hq => ?_⟩⟩⟩
  have m0 : Mv S0 ρ H _ _ := ((Mv.refl.new h0 0 (.tup (wdV (safeN 0)))).new h1 0 (.tup (wdV (safeN 1)))).new hq 0 (.lst [.ref t0, .ref t1])
  have e0 : upd H t0 (.tup (wdV (safeN 0))) t0 = some (.tup (wdV (safeN 0))) := upd_same
  have e1 : upd (upd H t0 (.tup (wdV (safeN 0)))) t1 (.tup (wdV (safeN 1))) t1 = some (.tup (wdV (safeN 1))) := upd_same
  have e0' := (upd_ne (o := .tup (wdV (safeN 1))) (ne_of_none e0 h1)).trans e0
  have f0 := (upd_ne (o := .lst [.ref t0, .ref t1]) (ne_of_none e0' hq)).trans e0'
  have f1 := (upd_ne (o := .lst [.ref t0, .ref t1]) (ne_of_none e1 hq)).trans e1
  have fq : upd (upd (upd H t0 (.tup (wdV (safeN 0)))) t1 (.tup (wdV (safeN 1)))) q (.lst [.ref t0, .ref t1]) q = some (.lst [.ref t0, .ref t1]) := upd_same
  refine ⟨_, rfl, .inl ⟨rfl, _, SqL.of fq⟩, (show (5 : Nat) ≤ sizeLine by decide), fun t2 h2 => ?_⟩
  have m1 := m0.new h2 0 (.tup (wdV (safeN 2)))
  have fq1 := (upd_ne (o := .tup (wdV (safeN 2))) (ne_of_none fq h2)).trans fq
  refine ⟨_, _, _, rfl, rfl, fq1, (show (2 : Nat) < sizeLine by decide), ?_⟩
  have m2 := m1.wr fq1 (fun xs z => by cases z) (.inl (by
    have z := hq
    have z1 := (m0.dom q)
    by_cases w1 : q = t1
    · rw [w1, upd_same] at z; cases z
    · rw [upd_ne w1] at z
      by_cases w0 : q = t0
      · rw [w0, upd_same] at z; cases z
      · rw [upd_ne w0] at z; exact z)) (.lst [.ref t0, .ref t1, .ref t2])
  refine ⟨_, rfl, (show (4 : Nat) ≤ sizeLine by decide), fun t3 h3 => ⟨(show (1 : Nat) ≤ sizeLine by decide), fun q2 hq2 => ?_⟩⟩
  have m3 := (m2.new h3 0 (.tup (wdV (safeN 3)))).new hq2 0 (.lst [.ref t3])
  have e3 : upd (upd (upd (upd (upd (upd H t0 (.tup (wdV (safeN 0)))) t1 (.tup (wdV (safeN 1)))) q (.lst [.ref t0, .ref t1])) t2 (.tup (wdV (safeN 2)))) q (.lst [.ref t0, .ref t1, .ref t2])) t3 (.tup (wdV (safeN 3))) t3 = some (.tup (wdV (safeN 3))) := upd_same
  have g1 : upd (upd (upd (upd (upd H t0 (.tup (wdV (safeN 0)))) t1 (.tup (wdV (safeN 1)))) q (.lst [.ref t0, .ref t1])) t2 (.tup (wdV (safeN 2)))) q (.lst [.ref t0, .ref t1, .ref t2]) q = some (.lst [.ref t0, .ref t1, .ref t2]) := upd_same
  have g2 := (upd_ne (o := .tup (wdV (safeN 3))) (ne_of_none g1 h3)).trans g1
  have g3 := (upd_ne (o := .lst [.ref t3]) (ne_of_none g2 hq2)).trans g2
  have e2 : upd (upd (upd (upd H t0 (.tup (wdV (safeN 0)))) t1 (.tup (wdV (safeN 1)))) q (.lst [.ref t0, .ref t1])) t2 (.tup (wdV (safeN 2))) t2 = some (.tup (wdV (safeN 2))) := upd_same
  refine ⟨q, q2, _, _, rfl, rfl, g3, upd_same, (show (4 : Nat) ≤ sizeLine by decide), fun q3 hq3 => ?_⟩
  have m4 := m3.new hq3 0 (.lst [.ref t0, .ref t1, .ref t2, .ref t3])
  have tq : ∀ b zs, upd (upd (upd H t0 (.tup (wdV (safeN 0)))) t1 (.tup (wdV (safeN 1)))) q (.lst [.ref t0, .ref t1]) b = some (.tup zs) → upd (upd (upd (upd H t0 (.tup (wdV (safeN 0)))) t1 (.tup (wdV (safeN 1)))) q (.lst [.ref t0, .ref t1])) t2 (.tup (wdV (safeN 2))) b = some (.tup zs) := fun b zs z => (upd_ne (ne_of_none z h2)).trans z
  have tr : ∀ b zs, upd (upd (upd (upd H t0 (.tup (wdV (safeN 0)))) t1 (.tup (wdV (safeN 1)))) q (.lst [.ref t0, .ref t1])) t2 (.tup (wdV (safeN 2))) b = some (.tup zs) → upd (upd (upd (upd (upd (upd (upd (upd H t0 (.tup (wdV (safeN 0)))) t1 (.tup (wdV (safeN 1)))) q (.lst [.ref t0, .ref t1])) t2 (.tup (wdV (safeN 2)))) q (.lst [.ref t0, .ref t1, .ref t2])) t3 (.tup (wdV (safeN 3)))) q2 (.lst [.ref t3])) q3 (.lst [.ref t0, .ref t1, .ref t2, .ref t3]) b = some (.tup zs) := fun b zs z => by
    have z1 := (upd_ne (o := .lst [.ref t0, .ref t1, .ref t2]) (ne_of z fq1 (by intro y; cases y))).trans z
    have z2 := (upd_ne (o := .tup (wdV (safeN 3))) (ne_of_none z1 h3)).trans z1
    have z3 := (upd_ne (o := .lst [.ref t3]) (ne_of_none z2 hq2)).trans z2
    exact (upd_ne (ne_of_none z3 hq3)).trans z3
  refine k _ _ q3 t0 t1 t2 t3 m4 upd_same (tr _ _ (tq _ _ f0)) (tr _ _ (tq _ _ f1)) (tr _ _ e2) ?_
  have z3 := (upd_ne (o := .lst [.ref t3]) (ne_of_none e3 hq2)).trans e3
  exact (upd_ne (ne_of_none z3 hq3)).trans z3
def sp_below : Sp := Sp2 fun a b H Q => ∃ (d : Addr) (lim : Nat) (ρ : Ro), a = .ref d ∧ b = .int (lim : Int) ∧ DAt ρ H d ∧ 1 ≤ lim ∧ lim < 100000 ∧
  ∀ H' (r : Nat), DAt ρ H' d → Mv SL ρ H ρ H' → r < lim → Q (.int (r : Int)) H'
theorem sc_L_below : FnScope ["_law_d", "_law_limit", "_law_result"] ["_law_d", "_law_limit"] (defScope s_L_below) := ⟨rfl, rfl, rfl, by decide +kernel, rfl, by decide +kernel, by decide +kernel⟩
theorem c_L_below (T : Txt K mg) : C8.Cal P w K mg base 1 "_law_below" (sp_below) [] := by
  refine cal_of T.F_L_below T.g_Lbelow sc_L_below len2 (fun _ _ _ _ _ _ us hl => match us, hl with | [_, _], _ => rfl) (fun cdv A outer s H vs Q E hr h => ?_)
  obtain ⟨a, b, rfl, d, lim, ρ, rfl, rfl, ⟨ds, h1, h2, h3⟩, l1, l2, k⟩ := h
  have at1 : ∀ ds : List Int, 2 ≤ ds.length → ∃ x, atI (ds.map V.int) 1 = some (.int x) ∧ ds[1]? = some x := fun ds hd => by
    refine ⟨ds[1]'hd, atI_nat (j := 1) ?_, List.getElem?_eq_getElem hd⟩
    rw [List.getElem?_map, List.getElem?_eq_getElem hd]
    rfl
  have at0' : ∀ ds : List Int, 2 ≤ ds.length → ∃ x, atI (ds.map V.int) 0 = some (.int x) := fun ds hd => by
    refine ⟨ds[0]'(by omega), atI_nat (j := 0) ?_⟩
    rw [List.getElem?_map, List.getElem?_eq_getElem (by omega)]
    rfl
  obtain ⟨x1, hx1, _⟩ := at1 ds h3
  refine ⟨_, pss_cut (ps_if (PW.pt (pw_and (pt_cmpR op_eq (pe_ix (r := rIxL K) ix_list (pv 0) (pe_int) (fun _ _ => rfl)) (pe_int) (nomark _)) (pw_and1 (pt_cmpR op_gt (pe_callB call_len_seq (by rfl) T.f_len (by decide +kernel) (pa_cons (pv 0) pa_nil)) (pe_int) (nomark _))))) (pss_one (ps_asg (pe_bm PySem.F.plainAttrs_list PySem.F.slot_list_pop PySem.F.type_list_pop mt_popAt (pv 0) (pa_cons (pe_int) pa_nil)) (pg_sub (pv 0) (pe_int) set_list))) (pss_nil))
      (pss_cons (ps_if (pt_cmpR op_gt (pe_ix (r := rIxL K) ix_list (pv 0) (pe_int) (fun _ _ => rfl)) (pe_int) (nomark _)) (pss_cons (ps_set (i := 2) sc_L_below.nd rfl (.inl rfl) (pe_op op_modN (pe_callTy call_int1 (by rfl) T.f_int (by decide +kernel) (pa_cons (pe_ix (r := rIxL K) ix_list (pv 0) (pe_int) (fun _ _ => rfl)) pa_nil)) (pv 1)))
      (pss_cons (ps_asg (pe_op op_fdivN (pe_ix (r := rIxL K) ix_list (pv 0) (pe_int) (fun _ _ => rfl)) (pv 1)) (pg_sub (pv 0) (pe_int) set_list))
      (pss_one (ps_ret (pv 2))))) (pss_nil))
      (pss_cons (ps_asg (pe_op op_modN (pe_callTy call_int1 (by rfl) T.f_int (by decide +kernel) (pa_cons (pe_op op_add (pe_op op_mul (pe_ix (r := rIxL K) ix_list (pv 0) (pe_int) (fun _ _ => rfl)) (pe_int)) (pe_int)) pa_nil)) (pe_int)) (pg_sub (pv 0) (pe_int) set_list))
      (pss_one (ps_ret (pe_op op_modN (pe_callTy call_int1 (by rfl) T.f_int (by decide +kernel) (pa_cons (pe_op op_fdivN (pe_ix (r := rIxL K) ix_list (pv 0) (pe_int) (fun _ _ => rfl)) (pe_int)) pa_nil)) (pv 1)))))), ?_⟩
  refine ⟨fun σ' H' => ∃ ds' : List Int, σ' = [some (.ref d), some (.int (lim : Int)), none] ∧ H' d = some (.lst (ds'.map V.int)) ∧ 2 ≤ ds'.length ∧ Mv SL ρ H ρ H', ?_, ?_⟩
  · refine ⟨_, rfl, _, _, _, _, rfl, rfl, SqL.of h1, hx1, rfl, _, rfl, ?_⟩
    cases hc : decide (V.int x1 = V.int 0) with
    | false => exact iteF (iteF ⟨ds, rfl, h1, h3, Mv.refl⟩)
    | true =>
      refine iteT ⟨_, rfl, _, _, rfl, .inl (SqL.of h1), _, _, rfl, rfl, _, rfl, ?_⟩
      by_cases hl : (((ds.map V.int).length : Int)) > 2
      · refine ite_tt (decide_eq_true hl) ?_
        rw [List.length_map] at hl
        have h2l : 2 < ds.length := by omega
        have hx2 : (ds.map V.int)[2]? = some (.int ds[2]) := by
          rw [List.getElem?_map, List.getElem?_eq_getElem h2l]
          rfl
        refine ⟨_, rfl, .inl ⟨rfl, _, SqL.of h1⟩, d, _, 2, 2, _, rfl, rfl, h1, by decide, by decide, ?_, hx2, _, rfl, ?_⟩
        · exact (ixN_seq (ixn (j := 2) (by rw [List.length_map]; exact h2l))).1
        · have e1 : (ds.map V.int).eraseIdx 2 = (ds.eraseIdx 2).map V.int := by rw [List.eraseIdx_eq_take_drop_succ, List.eraseIdx_eq_take_drop_succ, List.map_append, List.map_take, List.map_drop]
          have el : (ds.eraseIdx 2).length = ds.length - 1 := List.length_eraseIdx_of_lt h2l
          rw [e1]
          refine ⟨d, _, 1, 1, rfl, rfl, upd_same, ixn (j := 1) (by rw [List.length_map]; omega), (ds.eraseIdx 2).set 1 ds[2], rfl, by rw [upd_same, List.map_set], by rw [List.length_set]; omega, ?_⟩
          exact (Mv.refl.wr h1 (fun xs z => by cases z) (.inr h2) _).wr upd_same (fun xs z => by cases z) (.inr h2) _
      · exact ite_ff (decide_eq_false hl) ⟨ds, rfl, h1, h3, Mv.refl⟩
  · rintro σ1 H1 ⟨ds1, rfl, hd1, hl1, m1⟩
    obtain ⟨y1, hy1, hy1'⟩ := at1 ds1 hl1
    obtain ⟨y0, hy0⟩ := at0' ds1 hl1
    have hd0 : ∃ o, H d = some o := ⟨_, h1⟩
    refine ⟨_, rfl, _, _, _, _, rfl, rfl, SqL.of hd1, hy1, _, _, rfl, rfl, _, rfl, ?_⟩
    by_cases hp : y1 > 0
    · obtain ⟨r, hr1, hr2⟩ := fmod_in (x := y1) (l := lim) l1
      refine ite_tt (decide_eq_true hp) ?_
      refine ⟨_, rfl, _, _, _, _, rfl, rfl, SqL.of hd1, hy1, .inl ⟨_, rfl, _, rfl, _, _, rfl, rfl, (show (lim : Int) ≠ 0 by omega), ?_⟩⟩
      refine ⟨_, rfl, _, _, _, _, rfl, rfl, SqL.of hd1, hy1, _, rfl, _, _, rfl, rfl, (show (lim : Int) ≠ 0 ∧ (lim : Int).natAbs < 1073741824 from ⟨by omega, by omega⟩), _, rfl, d, _, 1, 1, rfl, rfl, hd1, ixn (j := 1) (by rw [List.length_map]; omega), _, rfl, ?_⟩
      have kk := k (upd H1 d (.lst ((ds1.map V.int).set 1 (.int (y1.fdiv lim))))) r ⟨ds1.set 1 (y1.fdiv lim), by rw [upd_same, List.map_set], h2, by rw [List.length_set]; exact hl1⟩ (m1.wr hd1 (fun xs z => by cases z) (.inr h2) _) hr2
      rw [← hr1] at kk
      exact kk
    · refine ite_ff (decide_eq_false hp) ?_
      refine ⟨_, rfl, _, _, _, _, rfl, rfl, SqL.of hd1, hy0, _, _, rfl, rfl, .inr ⟨by decide, by decide⟩, _, _, rfl, rfl, .inl ⟨_, rfl, _, _, rfl, rfl, (show (2147483647 : Int) ≠ 0 by decide), ?_⟩⟩
      refine ⟨_, rfl, d, _, 0, 0, rfl, rfl, hd1, ixn (j := 0) (by rw [List.length_map]; omega), ?_⟩
      have hd2 : upd H1 d (.lst ((ds1.map V.int).set 0 (.int ((y0 * 48271 + 11).fmod 2147483647)))) d = some (.lst ((ds1.set 0 ((y0 * 48271 + 11).fmod 2147483647)).map V.int)) := by rw [upd_same, List.map_set]
      obtain ⟨y2, hy2⟩ := at0' (ds1.set 0 ((y0 * 48271 + 11).fmod 2147483647)) (by rw [List.length_set]; exact hl1)
      obtain ⟨r, hr1, hr2⟩ := fmod_in (x := y2.fdiv 64) (l := lim) l1
      refine ⟨_, rfl, _, _, _, _, rfl, rfl, SqL.of hd2, hy2, _, _, rfl, rfl, (show (64 : Int) ≠ 0 ∧ (64 : Int).natAbs < 1073741824 by decide), .inl ⟨_, rfl, _, rfl, _, _, rfl, rfl, (show (lim : Int) ≠ 0 by omega), ?_⟩⟩
      have kk := k _ r ⟨_, hd2, h2, by rw [List.length_set]; exact hl1⟩ (m1.wr hd1 (fun xs z => by cases z) (.inr h2) _) hr2
      rw [← hr1] at kk
      exact kk
end
end Kb
set_option Elab.async false
set_option linter.all false
set_option maxRecDepth 100000
set_option maxHeartbeats 4000000
namespace Kb
open PySem PySem.Spec PyProof.Rows L2
theorem OkR.perm {p : Nat} {l m : List Wd} (h : OkR p l) (q : m.Perm l) : OkR p m :=
  ⟨by rw [q.length_eq]; exact h.len, fun w hw => h.ok w (q.mem_iff.mp hw), (q.filter _).nodup_iff.mpr h.nd, h.dn.imp id fun z => q.mem_iff.mpr z⟩
def okRB (p : Nat) (l : List Wd) : Bool := decide (l.length ≤ 8) && (l.all (fun w => decide (w ∈ stepsOf p)) && (decide ((l.filter fun w => !isSync w).Nodup) && (decide (p = 3) || decide (Wd.done ∈ l))))
theorem okRB_ok {p : Nat} {l : List Wd} (h : okRB p l = true) : OkR p l := by
  obtain ⟨h1, h⟩ := Bool.and_eq_true_iff.mp h
  obtain ⟨h2, h⟩ := Bool.and_eq_true_iff.mp h
  obtain ⟨h3, h4⟩ := Bool.and_eq_true_iff.mp h
  refine ⟨of_decide_eq_true h1, fun w hw => of_decide_eq_true (List.all_eq_true.mp h2 w hw), of_decide_eq_true h3, ?_⟩
  rcases Bool.or_eq_true_iff.mp h4 with z | z
  · exact .inl (of_decide_eq_true z)
  · exact .inr (of_decide_eq_true z)
def remR (l : List Wd) (i : Nat) : List Wd := l.take i ++ l.drop (i + 1)
def insR (l : List Wd) (i : Nat) (w : Wd) : List Wd := (l.take i ++ [w]) ++ l.drop i
def swpR (l : List Wd) (i j : Nat) (a b : Wd) : List Wd := (l.set i b).set j a
theorem safe_ok {p : Nat} (hp : p < 4) : okRB p (safeN p) = true := by
  match p, hp with
  | 0, _ => decide +kernel
  | 1, _ => decide +kernel
  | 2, _ => decide +kernel
  | 3, _ => decide +kernel
theorem rem_all : ((List.range 4).all fun p => (List.range (safeN p).length).all fun i => (safeN p)[i]? == some .done || okRB p (remR (safeN p) i)) = true := by decide +kernel
theorem ins_all : ((List.range 4).all fun p => (List.range (safeN p).length).all fun i => okRB p (insR (safeN p) i .sslow) && okRB p (insR (safeN p) i .sfast)) = true := by decide +kernel
theorem swp_all : ((List.range 4).all fun p => (List.range (safeN p).length).all fun i => (List.range (safeN p).length).all fun j => okRB p (swpR (safeN p) i j ((safeN p).getD i .done) ((safeN p).getD j .done))) = true := by decide +kernel
theorem rem_ok {p i : Nat} (hp : p < 4) (hi : i < (safeN p).length) (hd : (safeN p)[i]? ≠ some .done) : OkR p (remR (safeN p) i) := by
  have h := List.all_eq_true.mp (List.all_eq_true.mp rem_all p (List.mem_range.mpr hp)) i (List.mem_range.mpr hi)
  rcases Bool.or_eq_true_iff.mp h with z | z
  · exact absurd (beq_iff_eq.mp z) hd
  · exact okRB_ok z
theorem ins_ok {p i : Nat} (hp : p < 4) (hi : i < (safeN p).length) : OkR p (insR (safeN p) i .sslow) ∧ OkR p (insR (safeN p) i .sfast) := by
  have h := Bool.and_eq_true_iff.mp (List.all_eq_true.mp (List.all_eq_true.mp ins_all p (List.mem_range.mpr hp)) i (List.mem_range.mpr hi))
  exact ⟨okRB_ok h.1, okRB_ok h.2⟩
theorem swp_ok {p i j : Nat} (hp : p < 4) (hi : i < (safeN p).length) (hj : j < (safeN p).length) {a b : Wd} (ha : (safeN p)[i]? = some a) (hb : (safeN p)[j]? = some b) : OkR p (swpR (safeN p) i j a b) := by
  have h := List.all_eq_true.mp (List.all_eq_true.mp (List.all_eq_true.mp swp_all p (List.mem_range.mpr hp)) i (List.mem_range.mpr hi)) j (List.mem_range.mpr hj)
  rw [List.getD_eq_getElem?_getD, List.getD_eq_getElem?_getD, ha, hb] at h
  exact okRB_ok h
theorem cut_to (xs : List V) (k : Nat) : cutV xs none (some (k : Int)) = xs.take k := by
  unfold cutV
  rw [HT.sIx_nat, HT.sIx_none, List.drop_zero, Nat.sub_zero]
  by_cases h : k ≤ xs.length
  · rw [Nat.min_eq_left h]
  · rw [Nat.min_eq_right (by omega), List.take_length, List.take_of_length_le (by omega)]
theorem cut_from (xs : List V) (k : Nat) : cutV xs (some (k : Int)) none = xs.drop k := by
  unfold cutV
  rw [HT.sIx_nat, HT.sIx_none]
  by_cases h : k ≤ xs.length
  · rw [Nat.min_eq_left h]
    exact List.take_of_length_le (by rw [List.length_drop]; exact Nat.le_refl _)
  · rw [Nat.min_eq_right (by omega), List.drop_length, List.drop_of_length_le (by omega)]
    simp
theorem wdV_len (l : List Wd) : (wdV l).length = l.length := List.length_map ..
theorem wdV_app (l m : List Wd) : wdV (l ++ m) = wdV l ++ wdV m := List.map_append
theorem wdV_get {l : List Wd} {i : Nat} {w : Wd} (h : l[i]? = some w) : (wdV l)[i]? = some (.str (wdS w)) := by
  unfold wdV
  rw [List.getElem?_map, h]
  rfl
theorem erase_perm {l : List Wd} {k : Nat} {w : Wd} (h : l[k]? = some w) : (w :: l.eraseIdx k).Perm l := by
  obtain ⟨hk, hv⟩ := List.getElem?_eq_some_iff.mp h
  have e : l = l.take k ++ w :: l.drop (k + 1) := by
    rw [← hv, List.getElem_cons_drop, List.take_append_drop]
  rw [List.eraseIdx_eq_take_drop_succ]
  refine List.Perm.trans ?_ (List.Perm.of_eq e.symm)
  exact List.perm_middle.symm
section
variable {P : Program} {w : World} {K : PySem.W.Frag} {mg : Str → Option Value} {base : Heap}
def sp_shuf : Sp := Sp2 fun a b H Q => ∃ (d l : Addr) (ls : List Wd) (ρ : Ro), a = .ref d ∧ b = .ref l ∧ DAt ρ H d ∧ H l = some (.lst (wdV ls)) ∧ ls.length ≤ 100 ∧
  ∀ ρ' H' q lr, DAt ρ' H' d → Mv SL ρ H ρ' H' → H' q = some (.lst (wdV lr)) → ρ' q = 0 → lr.Perm ls → Q (.ref q) H'
theorem sc_L_shuffled : FnScope ["_law_d", "_law_items", "_law_pool", "_law_result"] ["_law_d", "_law_items"] (defScope s_L_shuffled) := ⟨rfl, rfl, rfl, by decide +kernel, rfl, by decide +kernel, by decide +kernel⟩
theorem c_L_shuffled (T : Txt K mg) : C8.Cal P w K mg base 2 "_law_shuffled" (sp_shuf) [] := by
  refine cal_of T.F_L_shuffled T.g_Lshuffled sc_L_shuffled len2 (fun _ _ _ _ _ _ us hl => match us, hl with | [_, _], _ => rfl) (fun cdv A outer s H vs Q E hr h => ?_)
  obtain ⟨a, b, rfl, d, l, ls, ρ, rfl, rfl, hd, hl, hln, k⟩ := h
  refine ⟨_, pss_cons (ps_set (i := 2) sc_L_shuffled.nd rfl (.inl rfl) (pe_callTy call_list_of (by rfl) T.f_list (by decide +kernel) (pa_cons (pv 1) pa_nil)))
      (pss_cons (ps_set (i := 3) sc_L_shuffled.nd rfl (.inl rfl) (pe_lst (pa_nil)))
      (pss_cons (ps_while PassesOwn.never (pt_cmpR (op_neD hr.units) (pv 2) (pe_lst (pa_nil)) (nomark _)) (pss_one (ps_expr (pe_bm PySem.F.plainAttrs_list PySem.F.slot_list_append PySem.F.type_list_append mt_append (pv 3) (pa_cons (pe_bm PySem.F.plainAttrs_list PySem.F.slot_list_pop PySem.F.type_list_pop mt_popAt (pv 2) (pa_cons (C8.pe_c (c_L_below T) hr (by decide) rfl (pa_cons (pv 0) (pa_cons (pe_callB call_len_seq (by rfl) T.f_len (by decide +kernel) (pa_cons (pv 2) pa_nil)) pa_nil))) pa_nil)) pa_nil)))))
      (pss_one (ps_ret (pv 3))))), ?_⟩
  refine ⟨_, rfl, l, _, rfl, .inl (SqL.of hl), fun pl hpl => ⟨(show (0 : Nat) ≤ sizeLine by decide), fun rs1 hrs => ?_⟩⟩
  have hpl0 : upd H pl (.lst (wdV ls)) pl = some (.lst (wdV ls)) := upd_same
  have npr : pl ≠ rs1 := ne_of_none hpl0 hrs
  have m0 : Mv SL ρ H _ _ := (Mv.refl.new hpl 0 (.lst (wdV ls))).new hrs 0 (.lst [])
  have hrsH : H rs1 = none := by
    have z := hrs
    rw [upd_ne (Ne.symm npr)] at z
    exact z
  refine ⟨fun m σ H' => ∃ ρ' lp lr, m = lp.length ∧ σ = [some (.ref d), some (.ref l), some (.ref pl), some (.ref rs1)] ∧ H' pl = some (.lst (wdV lp)) ∧ H' rs1 = some (.lst (wdV lr)) ∧ ρ' pl = 0 ∧ ρ' rs1 = 0 ∧ (lr ++ lp).Perm ls ∧ DAt ρ' H' d ∧ Mv SL ρ H ρ' H', ⟨_, _, ls, [], rfl, rfl, (upd_ne npr).trans hpl0, upd_same, (rs_ne npr).trans rs_same, rs_same, .refl _, hd.mv ((Mv.refl.new hpl 0 (.lst (wdV ls))).new hrs 0 (.lst []) : Mv S0 ρ H _ _) (fun z => z), m0⟩, ?_⟩
  rintro mm σ H1 ⟨ρ1, lp, lr, rfl, rfl, h1, h2, r1, r2, hp, hd1, m1⟩
  have hpl8 : lr.length + lp.length ≤ 100 := by
    have z := hp.length_eq
    rw [List.length_append] at z
    omega
  refine ⟨_, rfl, (show (0 : Nat) ≤ sizeLine by decide), fun b hb => ?_⟩
  have mb := m1.new hb 0 (.lst [])
  have h1b := (upd_ne (o := .lst []) (ne_of_none h1 hb)).trans h1
  have h2b := (upd_ne (o := .lst []) (ne_of_none h2 hb)).trans h2
  have r1b : rs ρ1 b 0 pl = 0 := (rs_ne (ne_of_none h1 hb)).trans r1
  have r2b : rs ρ1 b 0 rs1 = 0 := (rs_ne (ne_of_none h2 hb)).trans r2
  have hdb : DAt (rs ρ1 b 0) (upd H1 b (.lst [])) d := hd1.mv (Mv.refl.new hb 0 (.lst []) : Mv S0 ρ1 H1 _ _) (fun z => z)
  refine ne_nilS h1b upd_same ⟨_, rfl, ?_⟩
  generalize upd H1 b (.lst []) = H2 at *
  generalize rs ρ1 b 0 = ρ2 at *
  cases lp with
  | nil =>
    refine iteF ⟨_, rfl, k _ _ rs1 lr hdb mb h2b r2b ?_⟩
    rw [List.append_nil] at hp
    exact hp
  | cons x0 lp0 =>
    refine iteT ⟨_, fun σ' H' z => z, ?_⟩
    refine ⟨_, rfl, .inl ⟨rfl, _, SqL.of h2b⟩, _, rfl, .inl ⟨rfl, _, SqL.of h1b⟩, ?_⟩
    refine ⟨_, rfl, _, rfl, _, _, rfl, .inl (SqL.of h1b), ?_⟩
    refine ⟨_, _, rfl, d, (wdV (x0 :: lp0)).length, ρ2, rfl, rfl, hdb, by rw [wdV_len]; exact Nat.succ_le_succ (Nat.zero_le _), by rw [wdV_len]; omega, fun H3 r hd3 m3 hr => ?_⟩
    rw [wdV_len] at hr
    have h1c := m3.keeps h1b r1b (s1N (by decide))
    have h2c := m3.keeps h2b r2b (s1N (by decide))
    have hx : (x0 :: lp0)[r]? = some (x0 :: lp0)[r] := List.getElem?_eq_getElem hr
    generalize (x0 :: lp0)[r] = wr at hx
    have ep := erase_perm hx
    have el : ((x0 :: lp0).eraseIdx r).length = (x0 :: lp0).length - 1 := List.length_eraseIdx_of_lt hr
    refine ⟨pl, _, (r : Int), r, _, rfl, rfl, h1c, by omega, by omega, (ixN_seq (ixn (by rw [wdV_len]; exact hr))).1, wdV_get hx, ?_⟩
    have ee : (wdV (x0 :: lp0)).eraseIdx r = wdV ((x0 :: lp0).eraseIdx r) := by
      unfold wdV
      rw [List.eraseIdx_eq_take_drop_succ, List.eraseIdx_eq_take_drop_succ, List.map_append, List.map_take, List.map_drop]
    rw [ee]
    have m4 := (mb.trans m3).wr h1c (fun xs z => by cases z) (.inl hpl) (.lst (wdV ((x0 :: lp0).eraseIdx r)))
    have h2d := (upd_ne (o := .lst (wdV ((x0 :: lp0).eraseIdx r))) (Ne.symm npr)).trans h2c
    refine ⟨_, _, _, rfl, rfl, h2d, by
      rw [wdV_len]
      exact Nat.lt_of_le_of_lt (show lr.length ≤ 100 by omega) (by decide), ?_⟩
    have ea : wdV lr ++ [V.str (wdS wr)] = wdV (lr ++ [wr]) := by rw [wdV_app]; rfl
    rw [ea]
    have m5 := m4.wr h2d (fun xs z => by cases z) (.inl hrsH) (.lst (wdV (lr ++ [wr])))
    have w1 : Mv (S1 0) ρ2 H3 ρ2 (upd (upd H3 pl (.lst (wdV ((x0 :: lp0).eraseIdx r)))) rs1 (.lst (wdV (lr ++ [wr])))) := (Mv.refl.wr h1c (fun xs z => by cases z) (.inr r1b) _).wr h2d (fun xs z => by cases z) (.inr r2b) _
    refine ⟨_, by rw [el]; exact Nat.sub_lt (Nat.succ_pos _) (by decide), ρ2, _, _, rfl, rfl, (upd_ne npr).trans upd_same, upd_same, r1b, r2b, ?_, hd3.mv w1 (s1N (by decide)), m5⟩
    rw [List.append_assoc]
    exact (ep.append_left lr).trans hp
abbrev rcS (d : Addr) (p : Nat) (q : Addr) (kd ia io : Nat) (x6 x7 : Option V) : L2.St := [some (.ref d), some (.int (p : Int)), some (.ref q), some (.int (kd : Int)), some (.int (ia : Int)), some (.int (io : Int)), x6, x7]
def sp_recipe : Sp := Sp2 fun a b H Q => ∃ (d : Addr) (p : Nat) (ρ : Ro), a = .ref d ∧ b = .int (p : Int) ∧ p < 4 ∧ DAt ρ H d ∧
  ∀ ρ' H' t l, DAt ρ' H' d → Mv SL ρ H ρ' H' → H' t = some (.tup (wdV l)) → OkR p l → Q (.ref t) H'
theorem sc_L_recipe : FnScope ["_law_d", "_law_part", "_law_recipe_here", "_law_kind", "_law_at", "_law_other", "_law_one", "_law_two"] ["_law_d", "_law_part"] (defScope s_L_recipe) := ⟨rfl, rfl, rfl, by decide +kernel, rfl, by decide +kernel, by decide +kernel⟩
theorem c_L_recipe (T : Txt K mg) : C8.Cal P w K mg base 3 "_law_recipe" (sp_recipe) [] := by
  refine cal_of T.F_L_recipe T.g_Lrecipe sc_L_recipe len2 (fun _ _ _ _ _ _ us hl => match us, hl with | [_, _], _ => rfl) (fun cdv A outer s H vs Q E hr h => ?_)
  obtain ⟨a, b, rfl, d, p, ρ, rfl, rfl, hp, hd, k⟩ := h
  refine ⟨_, pss_cons (ps_par (i := 2) (j := 3) (by rfl) sc_L_recipe.nd rfl rfl (by decide) rfl rfl (pa_cons (pe_callTy call_list_of (by rfl) T.f_list (by decide +kernel) (pa_cons (pe_ix (r := rIxL K) ix_list (pe_c0 (c_L_safe T) hr (by decide) rfl) (pv 1) (fun _ _ => rfl)) pa_nil)) (pa_cons (C8.pe_c (c_L_below T) hr (by decide) rfl (pa_cons (pv 0) (pa_cons (pe_int) pa_nil))) pa_nil)) (by rfl))
      (pss_cons (ps_par (i := 4) (j := 5) (by rfl) sc_L_recipe.nd rfl rfl (by decide) rfl rfl (pa_cons (C8.pe_c (c_L_below T) hr (by decide) rfl (pa_cons (pv 0) (pa_cons (pe_callB call_len_seq (by rfl) T.f_len (by decide +kernel) (pa_cons (pv 2) pa_nil)) pa_nil))) (pa_cons (C8.pe_c (c_L_below T) hr (by decide) rfl (pa_cons (pv 0) (pa_cons (pe_callB call_len_seq (by rfl) T.f_len (by decide +kernel) (pa_cons (pv 2) pa_nil)) pa_nil))) pa_nil)) (by rfl))
      (pss_cut (ps_if (PW.pt (pw_and (pt_cmpR op_eq (pv 3) (pe_int) (nomark _)) (pw_and1 (pt_cmpR op_ne (pe_ix (r := rIxL K) ix_list (pv 2) (pv 4) (fun _ _ => rfl)) (pe_str) (nomark _))))) (pss_one (ps_set (i := 2) sc_L_recipe.nd rfl (.inl rfl) (pe_op op_cat (pe_slice sl_list (pv 2) (po_none) (po_some (pv 4))) (pe_slice sl_list (pv 2) (po_some (pe_op op_add (pv 4) (pe_int))) (po_none))))) (pss_one (ps_if (pt_cmpR op_eq (pv 3) (pe_int) (nomark _)) (pss_cons (ps_par (i := 6) (j := 7) (by rfl) sc_L_recipe.nd rfl rfl (by decide) rfl rfl (pa_cons (pe_ix (r := rIxL K) ix_list (pv 2) (pv 4) (fun _ _ => rfl)) (pa_cons (pe_ix (r := rIxL K) ix_list (pv 2) (pv 5) (fun _ _ => rfl)) pa_nil)) (by rfl))
      (pss_one (ps_asg (pe_tup (pa_cons (pv 7) (pa_cons (pv 6) pa_nil))) (pg_tup (n := 2) rfl (pgs_cons (pg_sub (pv 2) (pv 4) set_list) (pgs_cons (pg_sub (pv 2) (pv 5) set_list) pgs_nil)))))) (pss_one (ps_if (pt_cmpR op_eq (pv 3) (pe_int) (nomark _)) (pss_one (ps_set (i := 2) sc_L_recipe.nd rfl (.inl rfl) (pe_op op_cat (pe_op op_cat (pe_slice sl_list (pv 2) (po_none) (po_some (pv 4))) (pe_lst (pa_cons (pe_ix (r := rIxL K) ix_list (pe_lst (pa_cons (pe_str) (pa_cons (pe_str) pa_nil))) (C8.pe_c (c_L_below T) hr (by decide) rfl (pa_cons (pv 0) (pa_cons (pe_int) pa_nil))) (fun _ _ => rfl)) pa_nil))) (pe_slice sl_list (pv 2) (po_some (pv 4)) (po_none))))) (pss_one (ps_if (pt_cmpR op_eq (pv 3) (pe_int) (nomark _)) (pss_one (ps_set (i := 2) sc_L_recipe.nd rfl (.inl rfl) (C8.pe_c (c_L_shuffled T) hr (by decide) rfl (pa_cons (pv 0) (pa_cons (pv 2) pa_nil))))) (pss_nil))))))))
      (pss_one (ps_ret (pe_callTy call_tuple_of (by rfl) T.f_tuple (by decide +kernel) (pa_cons (pv 2) pa_nil)))))), ?_⟩
  refine ⟨rfl, ρ, fun ρ1 H1 q t0 t1 t2 t3 m1 hq e0 e1 e2 e3 => ?_⟩
  have hpt : ∃ t, [V.ref t0, .ref t1, .ref t2, .ref t3][p]? = some (.ref t) ∧ H1 t = some (.tup (wdV (safeN p))) := by
    match p, hp with
    | 0, _ => exact ⟨_, rfl, e0⟩
    | 1, _ => exact ⟨_, rfl, e1⟩
    | 2, _ => exact ⟨_, rfl, e2⟩
    | 3, _ => exact ⟨_, rfl, e3⟩
  obtain ⟨tp, htp, htt⟩ := hpt
  have hl5 : 1 ≤ (safeN p).length ∧ (safeN p).length ≤ 5 := by
    match p, hp with
    | 0, _ => decide
    | 1, _ => decide
    | 2, _ => decide
    | 3, _ => decide
  refine ⟨_, rfl, _, _, _, _, rfl, rfl, SqL.of hq, atI_nat htp, tp, _, rfl, .inr (SqT.of htt), fun l hl => ?_⟩
  have hlH : H l = none := m1.dom _ hl
  have m2 := (m1.mono (S' := SL) s0_sp).new hl 0 (.lst (wdV (safeN p)))
  have hl2 : upd H1 l (.lst (wdV (safeN p))) l = some (.lst (wdV (safeN p))) := upd_same
  have rl2 : rs ρ1 l 0 l = 0 := rs_same
  have hd2 := (hd.mv m1 (fun z => z)).mv (Mv.refl.new hl 0 (.lst (wdV (safeN p))) : Mv S0 ρ1 H1 _ _) (fun z => z)
  generalize upd H1 l (.lst (wdV (safeN p))) = H2 at *
  generalize rs ρ1 l 0 = ρ2 at *
  refine ⟨_, rfl, _, _, rfl, d, 5, ρ2, rfl, rfl, hd2, by decide, by decide, fun H3 kd hd3 m3 hkd => ⟨_, _, rfl, ?_⟩⟩
  have hl3 := m3.keeps hl2 rl2 (s1N (by decide))
  refine ⟨_, rfl, _, rfl, _, _, rfl, .inl (SqL.of hl3), _, _, rfl, d, (wdV (safeN p)).length, ρ2, rfl, rfl, hd3, by rw [wdV_len]; exact hl5.1, by rw [wdV_len]; omega, fun H4 ia hd4 m4 hia => ?_⟩
  have hl4 := m4.keeps hl3 rl2 (s1N (by decide))
  refine ⟨_, rfl, _, rfl, _, _, rfl, .inl (SqL.of hl4), _, _, rfl, d, (wdV (safeN p)).length, ρ2, rfl, rfl, hd4, by rw [wdV_len]; exact hl5.1, by rw [wdV_len]; omega, fun H5 io hd5 m5 hio => ⟨_, _, rfl, ?_⟩⟩
  have hl5' := m5.keeps hl4 rl2 (s1N (by decide))
  rw [wdV_len] at hia hio
  have m25 := ((m2.trans m3).trans m4).trans m5
  obtain ⟨wa, hwa⟩ : ∃ wa, (safeN p)[ia]? = some wa := ⟨_, List.getElem?_eq_getElem hia⟩
  obtain ⟨wo, hwo⟩ : ∃ wo, (safeN p)[io]? = some wo := ⟨_, List.getElem?_eq_getElem hio⟩
  refine ⟨fun σ' H' => ∃ ρ' q lr x6 x7, σ' = rcS d p q kd ia io x6 x7 ∧ H' q = some (.lst (wdV lr)) ∧ OkR p lr ∧ DAt ρ' H' d ∧ Mv SL ρ H ρ' H', ?_, ?_⟩
  · have same : ∃ ρ' q lr x6 x7, rcS d p l kd ia io none none = rcS d p q kd ia io x6 x7 ∧ H5 q = some (.lst (wdV lr)) ∧ OkR p lr ∧ DAt ρ' H5 d ∧ Mv SL ρ H ρ' H5 :=
      ⟨ρ2, l, safeN p, none, none, rfl, hl5', okRB_ok (safe_ok hp), hd5, m25⟩
    have cat : ∀ (ρ' : Ro) (H' : Hp) (q : Addr) (lr : List Wd), DAt ρ' H' d → Mv SL ρ H ρ' H' → H' q = none → OkR p lr → ∃ ρ'' q' lr' x6 x7, rcS d p q kd ia io none none = rcS d p q' kd ia io x6 x7 ∧ upd H' q (.lst (wdV lr)) q' = some (.lst (wdV lr')) ∧ OkR p lr' ∧ DAt ρ'' (upd H' q (.lst (wdV lr))) d ∧ Mv SL ρ H ρ'' (upd H' q (.lst (wdV lr))) := fun ρ' H' q lr hd' m' hq ok' =>
      ⟨rs ρ' q 0, q, lr, none, none, rfl, upd_same, ok', hd'.mv (Mv.refl.new hq 0 (.lst (wdV lr)) : Mv S0 ρ' H' _ _) (fun z => z), m'.new hq 0 _⟩
    obtain rfl | rfl | rfl | rfl | rfl : kd = 0 ∨ kd = 1 ∨ kd = 2 ∨ kd = 3 ∨ kd = 4 := by omega
    · exact ⟨_, rfl, rfl, _, rfl, ite_ff (by decide) (iteF ⟨_, rfl, rfl, _, rfl, ite_ff (by decide) ⟨_, rfl, rfl, _, rfl, ite_ff (by decide) ⟨_, rfl, rfl, _, rfl, ite_ff (by decide) same⟩⟩⟩)⟩
    · refine ⟨_, rfl, rfl, _, rfl, ite_tt (by decide) ⟨_, rfl, _, rfl, _, _, _, _, rfl, rfl, SqL.of hl5', atI_nat (wdV_get hwa), rfl, _, rfl, ?_⟩⟩
      by_cases hdn : wa = .done
      · refine ite_ff (by rw [hdn]; decide +kernel) ⟨_, rfl, rfl, _, rfl, ite_ff (by decide) ⟨_, rfl, rfl, _, rfl, ite_ff (by decide) ⟨_, rfl, rfl, _, rfl, ite_ff (by decide) same⟩⟩⟩
      · refine ite_tt (by cases wa <;> first | exact absurd rfl hdn | decide +kernel) ?_
        refine ⟨_, rfl, _, rfl, _, rfl, l, _, rfl, SqL.of hl5', fun p1 hp1 => ?_⟩
        generalize hz1 : cutV (wdV (safeN p)) none _ = zs1
        have e1 : zs1 = wdV ((safeN p).take ia) := hz1.symm.trans ((cut_to _ ia).trans (by unfold wdV; rw [List.map_take]))
        subst e1
        clear hz1
        have hlA := (upd_ne (o := .lst (wdV ((safeN p).take ia))) (ne_of_none hl5' hp1)).trans hl5'
        refine ⟨_, rfl, _, rfl, _, _, rfl, rfl, _, rfl, l, _, rfl, SqL.of hlA, fun p2 hp2 => ?_⟩
        generalize hz2 : cutV (wdV (safeN p)) _ none = zs2
        have e2 : zs2 = wdV ((safeN p).drop (ia + 1)) := hz2.symm.trans ((cut_from _ (ia + 1)).trans (by unfold wdV; rw [List.map_drop]))
        subst e2
        clear hz2
        have g1 : upd H5 p1 (.lst (wdV ((safeN p).take ia))) p1 = some (.lst (wdV ((safeN p).take ia))) := upd_same
        refine ⟨p1, p2, _, _, rfl, rfl, (upd_ne (ne_of_none g1 hp2)).trans g1, upd_same, ?_, fun p3 hp3 => ?_⟩
        · rw [wdV_len, wdV_len, List.length_take, List.length_drop]
          exact Nat.le_trans (show _ ≤ 100 by omega) (by decide)
        · rw [← wdV_app]
          have m7 := (m25.new hp1 0 (.lst (wdV ((safeN p).take ia)))).new hp2 0 (.lst (wdV ((safeN p).drop (ia + 1))))
          have hd7 := hd5.mv ((Mv.refl.new hp1 0 (.lst (wdV ((safeN p).take ia)))).new hp2 0 (.lst (wdV ((safeN p).drop (ia + 1)))) : Mv S0 ρ2 H5 _ _) (fun z => z)
          exact cat _ _ p3 (remR (safeN p) ia) hd7 m7 hp3 (rem_ok hp hia (by rw [hwa]; intro z; exact hdn (Option.some.inj z)))
    · refine ⟨_, rfl, rfl, _, rfl, ite_ff (by decide) (iteF ⟨_, rfl, rfl, _, rfl, ite_tt (by decide) ?_⟩)⟩
      refine ⟨_, rfl, _, rfl, _, _, _, _, rfl, rfl, SqL.of hl5', atI_nat (wdV_get hwa), _, rfl, _, rfl, _, _, _, _, rfl, rfl, SqL.of hl5', atI_nat (wdV_get hwo), _, _, rfl, ?_⟩
      refine ⟨_, rfl, _, rfl, (show (2 : Nat) ≤ sizeLine by decide), fun t ht => ?_⟩
      have hlA := (upd_ne (o := .tup [.str (wdS wo), .str (wdS wa)]) (ne_of_none hl5' ht)).trans hl5'
      have e1 : (wdV (safeN p)).set ia (.str (wdS wo)) = wdV ((safeN p).set ia wo) := by unfold wdV; rw [List.map_set]
      refine ⟨t, _, rfl, SqT.of upd_same, rfl, _, _, rfl, _, rfl, _, rfl, l, _, _, ia, rfl, rfl, hlA, ixn (by rw [wdV_len]; exact hia), ?_⟩
      rw [e1]
      have e2 : (wdV ((safeN p).set ia wo)).set io (.str (wdS wa)) = wdV (swpR (safeN p) ia io wa wo) := List.map_set.symm
      refine ⟨_, _, rfl, _, rfl, _, rfl, l, _, _, io, rfl, rfl, upd_same, ixn (by rw [wdV_len, List.length_set]; exact hio), ?_⟩
      rw [e2]
      have rlt : rs ρ2 t 0 l = 0 := (rs_ne (ne_of_none hl5' ht)).trans rl2
      refine ⟨rfl, rs ρ2 t 0, l, swpR (safeN p) ia io wa wo, _, _, rfl, upd_same, swp_ok hp hia hio hwa hwo, ?_, ?_⟩
      · exact hd5.mv (((Mv.refl.new ht 0 (.tup [.str (wdS wo), .str (wdS wa)])).wr hlA (fun xs z => by cases z) (.inr rlt) _).wr upd_same (fun xs z => by cases z) (.inr rlt) _ : Mv (S1 0) ρ2 H5 _ _) (s1N (by decide))
      · exact ((m25.new ht 0 (.tup [.str (wdS wo), .str (wdS wa)])).wr hlA (fun xs z => by cases z) (.inl hlH) _).wr upd_same (fun xs z => by cases z) (.inl hlH) _
    · refine ⟨_, rfl, rfl, _, rfl, ite_ff (by decide) (iteF ⟨_, rfl, rfl, _, rfl, ite_ff (by decide) ⟨_, rfl, rfl, _, rfl, ite_tt (by decide) ?_⟩⟩)⟩
      refine ⟨_, rfl, _, rfl, _, rfl, l, _, rfl, SqL.of hl5', fun p1 hp1 => ?_⟩
      generalize hz1 : cutV (wdV (safeN p)) none _ = zs1
      have e1 : zs1 = wdV ((safeN p).take ia) := hz1.symm.trans ((cut_to _ ia).trans (by unfold wdV; rw [List.map_take]))
      subst e1
      clear hz1
      have mA : Mv SL ρ H _ _ := m25.new hp1 0 (.lst (wdV ((safeN p).take ia)))
      have hdA := hd5.mv (Mv.refl.new hp1 0 (.lst (wdV ((safeN p).take ia))) : Mv S0 ρ2 H5 _ _) (fun z => z)
      have hlA := (upd_ne (o := .lst (wdV ((safeN p).take ia))) (ne_of_none hl5' hp1)).trans hl5'
      have rlA : rs ρ2 p1 0 l = 0 := (rs_ne (ne_of_none hl5' hp1)).trans rl2
      have gA : upd H5 p1 (.lst (wdV ((safeN p).take ia))) p1 = some (.lst (wdV ((safeN p).take ia))) := upd_same
      have rA : rs ρ2 p1 0 p1 = 0 := rs_same
      generalize upd H5 p1 (.lst (wdV ((safeN p).take ia))) = HA at *
      generalize rs ρ2 p1 0 = ρA at *
      refine ⟨(show (2 : Nat) ≤ sizeLine by decide), fun p2 hp2 => ?_⟩
      have mB := mA.new hp2 0 (.lst [.str "sync slow", .str "sync fast"])
      have hdB := hdA.mv (Mv.refl.new hp2 0 (.lst [.str "sync slow", .str "sync fast"]) : Mv S0 ρA HA _ _) (fun z => z)
      have hlB := (upd_ne (o := .lst [.str "sync slow", .str "sync fast"]) (ne_of_none hlA hp2)).trans hlA
      have rlB : rs ρA p2 0 l = 0 := (rs_ne (ne_of_none hlA hp2)).trans rlA
      have gB := (upd_ne (o := .lst [.str "sync slow", .str "sync fast"]) (ne_of_none gA hp2)).trans gA
      have rB : rs ρA p2 0 p1 = 0 := (rs_ne (ne_of_none gA hp2)).trans rA
      have hB : upd HA p2 (.lst [.str "sync slow", .str "sync fast"]) p2 = some (.lst [.str "sync slow", .str "sync fast"]) := upd_same
      have rB2 : rs ρA p2 0 p2 = 0 := rs_same
      generalize upd HA p2 (.lst [.str "sync slow", .str "sync fast"]) = HB at *
      generalize rs ρA p2 0 = ρB at *
      refine ⟨_, rfl, _, _, rfl, d, 2, ρB, rfl, rfl, hdB, by decide, by decide, fun HC r hdC mC hr => ?_⟩
      have hlC := mC.keeps hlB rlB (s1N (by decide))
      have gC := mC.keeps gB rB (s1N (by decide))
      have hC := mC.keeps hB rB2 (s1N (by decide))
      obtain ⟨ws, hws, hokw⟩ : ∃ ws : Wd, ([.str "sync slow", .str "sync fast"] : List V)[r]? = some (.str (wdS ws)) ∧ OkR p (insR (safeN p) ia ws) := by
        obtain ⟨i1, i2⟩ := ins_ok hp hia
        obtain rfl | rfl : r = 0 ∨ r = 1 := by omega
        · exact ⟨.sslow, rfl, i1⟩
        · exact ⟨.sfast, rfl, i2⟩
      refine ⟨p2, _, _, _, rfl, rfl, SqL.of hC, atI_nat hws, (show (1 : Nat) ≤ sizeLine by decide), fun p3 hp3 => ?_⟩
      have mD := (mB.trans mC).new hp3 0 (.lst [.str (wdS ws)])
      have gD := (upd_ne (o := .lst [.str (wdS ws)]) (ne_of_none gC hp3)).trans gC
      have hlD := (upd_ne (o := .lst [.str (wdS ws)]) (ne_of_none hlC hp3)).trans hlC
      have hdD := hdC.mv (Mv.refl.new hp3 0 (.lst [.str (wdS ws)]) : Mv S0 ρB HC _ _) (fun z => z)
      refine ⟨p1, p3, _, _, rfl, rfl, gD, upd_same, ?_, fun p4 hp4 => ?_⟩
      · rw [wdV_len, List.length_take]
        exact Nat.le_trans (show _ ≤ 100 by show _ + 1 ≤ 100; omega) (by decide)
      have eE : wdV ((safeN p).take ia) ++ [V.str (wdS ws)] = wdV ((safeN p).take ia ++ [ws]) := by rw [wdV_app]; rfl
      rw [eE]
      have mE := mD.new hp4 0 (.lst (wdV ((safeN p).take ia ++ [ws])))
      have hlE := (upd_ne (o := .lst (wdV ((safeN p).take ia ++ [ws]))) (ne_of_none hlD hp4)).trans hlD
      have hdE := hdD.mv (Mv.refl.new hp4 0 (.lst (wdV ((safeN p).take ia ++ [ws]))) : Mv S0 _ _ _ _) (fun z => z)
      refine ⟨_, rfl, _, rfl, _, rfl, l, _, rfl, SqL.of hlE, fun p5 hp5 => ?_⟩
      generalize hz2 : cutV (wdV (safeN p)) _ none = zs2
      have e2 : zs2 = wdV ((safeN p).drop ia) := hz2.symm.trans ((cut_from _ ia).trans (by unfold wdV; rw [List.map_drop]))
      subst e2
      clear hz2
      have gE : upd (upd HC p3 (.lst [.str (wdS ws)])) p4 (.lst (wdV ((safeN p).take ia ++ [ws]))) p4 = some (.lst (wdV ((safeN p).take ia ++ [ws]))) := upd_same
      refine ⟨p4, p5, _, _, rfl, rfl, (upd_ne (ne_of_none gE hp5)).trans gE, upd_same, ?_, fun p6 hp6 => ?_⟩
      · rw [wdV_len, wdV_len, List.length_append, List.length_take, List.length_drop, List.length_singleton]
        exact Nat.le_trans (show _ ≤ 100 by omega) (by decide)
      · rw [← wdV_app]
        exact cat _ _ p6 (insR (safeN p) ia ws) (hdE.mv (Mv.refl.new hp5 0 (.lst (wdV ((safeN p).drop ia))) : Mv S0 _ _ _ _) (fun z => z)) (mE.new hp5 0 _) hp6 hokw
    · refine ⟨_, rfl, rfl, _, rfl, ite_ff (by decide) (iteF ⟨_, rfl, rfl, _, rfl, ite_ff (by decide) ⟨_, rfl, rfl, _, rfl, ite_ff (by decide) ⟨_, rfl, rfl, _, rfl, ite_tt (by decide) ?_⟩⟩⟩)⟩
      refine ⟨_, rfl, _, rfl, _, _, rfl, d, l, safeN p, ρ2, rfl, rfl, hd5, hl5', by omega, fun ρ6 H6 q lr hd6 m6 hq6 r6 hperm => ?_⟩
      exact ⟨ρ6, q, lr, none, none, rfl, hq6, (okRB_ok (safe_ok hp)).perm hperm, hd6, m25.trans m6⟩
  · rintro σ6 H6 ⟨ρ6, q6, lr, x6, x7, rfl, hq6, hok, hd6, m6⟩
    refine ⟨_, rfl, q6, _, rfl, .inl ⟨SqL.of hq6, fun t ht => ?_⟩⟩
    have m7 := m6.new ht 0 (.tup (wdV lr))
    exact k _ _ t lr (hd6.mv (Mv.refl.new ht 0 (.tup (wdV lr)) : Mv S0 ρ6 H6 _ _) (fun z => z)) m7 upd_same hok
end
end Kb
set_option Elab.async false
set_option linter.all false
set_option maxRecDepth 100000
set_option maxHeartbeats 4000000
namespace Kb
open PySem PySem.Spec PyProof.Rows L2
structure RcI (H : Hp) (i : Nat) (ys : List V) (ts : List Addr) (ls : List (List Wd)) : Prop where
  e1 : ts.length = i
  e2 : ls.length = i
  e3 : ys = ts.map V.ref
  e4 : ∀ j t l, ts[j]? = some t → ls[j]? = some l → H t = some (.tup (wdV l)) ∧ OkR j l
theorem RcI.snoc {H : Hp} {i : Nat} {ys : List V} {ts : List Addr} {ls : List (List Wd)} (h : RcI H i ys ts ls) {t : Addr} {l : List Wd} (ht : H t = some (.tup (wdV l))) (hl : OkR i l) : RcI H (i + 1) (ys ++ [.ref t]) (ts ++ [t]) (ls ++ [l]) := by
  refine ⟨by rw [List.length_append, h.e1]; rfl, by rw [List.length_append, h.e2]; rfl, by rw [h.e3, List.map_append]; rfl, fun j t' l' h1 h2 => ?_⟩
  by_cases q : j < i
  · rw [List.getElem?_append_left (by rw [h.e1]; exact q)] at h1
    rw [List.getElem?_append_left (by rw [h.e2]; exact q)] at h2
    exact h.e4 j t' l' h1 h2
  · have hj := (List.getElem?_eq_some_iff.mp h1).1
    rw [List.length_append, h.e1, List.length_singleton] at hj
    have e : j = i := by omega
    subst e
    rw [List.getElem?_append_right (by rw [h.e1]; exact Nat.le_refl _), h.e1, Nat.sub_self] at h1
    rw [List.getElem?_append_right (by rw [h.e2]; exact Nat.le_refl _), h.e2, Nat.sub_self] at h2
    cases h1
    cases h2
    exact ⟨ht, hl⟩
theorem RcI.mono {H H' : Hp} {i : Nat} {ys : List V} {ts : List Addr} {ls : List (List Wd)} (h : RcI H i ys ts ls) (k : ∀ a xs, H a = some (.tup xs) → H' a = some (.tup xs)) : RcI H' i ys ts ls := ⟨h.e1, h.e2, h.e3, fun j t l h1 h2 => ⟨k _ _ (h.e4 j t l h1 h2).1, (h.e4 j t l h1 h2).2⟩⟩
section
variable {P : Program} {w : World} {K : PySem.W.Frag} {mg : Str → Option Value} {base : Heap}
def sp_recipes : Sp := Sp1 fun a H Q => ∃ (d : Addr) (ρ : Ro), a = .ref d ∧ DAt ρ H d ∧
  ∀ ρ' H' q ys ts ls, DAt ρ' H' d → Mv SL ρ H ρ' H' → H' q = some (.lst ys) → ρ' q = 0 → RcI H' 4 ys ts ls → Q (.ref q) H'
theorem sc_L_recipes : FnScope ["_law_d", "_law_part"] ["_law_d"] (defScope s_L_recipes) := ⟨rfl, rfl, rfl, by decide +kernel, rfl, by decide +kernel, by decide +kernel⟩
theorem c_L_recipes (T : Txt K mg) : C8.Cal P w K mg base 4 "_law_recipes" (sp_recipes) [] := by
  refine cal_of T.F_L_recipes T.g_Lrecipes sc_L_recipes len1 (fun _ _ _ _ _ _ us hl => match us, hl with | [_], _ => rfl) (fun cdv A outer s H vs Q E hr h => ?_)
  obtain ⟨a, rfl, d, ρ, rfl, hd, k⟩ := h
  refine ⟨_, pss_one (ps_ret (pe_lc (own := [("_law_part", 1)]) (by rfl) sc_L_recipes.nd (g := gName 1) (pi_range1 rfl T.f_range (pa_cons (pe_int) pa_nil)) (blkOk_by (own := [("_law_part", 1)]) (N := ["_law_d", "_law_part"]) (sc := defScope s_L_recipes) (by decide +kernel)) (fun _ _ _ _ _ => pg_name (i := 1) sc_L_recipes.nd rfl (.inl rfl) (.inr rfl)) (fun _ _ _ _ _ => pts_nil) (fun _ _ _ _ _ => C8.pe_c (c_L_recipe T) hr (by decide) rfl (pa_cons (pv 0) (pa_cons (pv 1) pa_nil))))), ?_⟩
  refine ⟨4, rfl, by decide, by decide, fun D hD => ?_⟩
  refine lc_it (Qd := fun H' => _) (walk_range0 (n := 4)) (fun i H' => ∃ ρ' ys ts ls, DAt ρ' H' d ∧ Mv SL ρ H ρ' H' ∧ H' D = some (.lst ys) ∧ ρ' D = 0 ∧ RcI H' i ys ts ls)
    ⟨_, [], [], [], hd.mv (Mv.refl.new hD 0 (.lst []) : Mv S0 ρ H _ _) (fun z => z), Mv.refl.new hD 0 _, upd_same, rs_same, rfl, rfl, rfl, fun j t l h1 => by simp at h1⟩ (fun i H' _ _ => trivial) (fun i x H7 H8 hi ⟨ρ7, ys, ts, ls, hd7, m7, hy, r0, hc⟩ y => ?_) (fun H7 ⟨ρ7, ys, ts, ls, hd7, m7, hy, r0, hc⟩ => ?_)
  · obtain ⟨rfl, rfl⟩ := y
    refine ⟨rfl, ?_⟩
    refine ⟨_, rfl, _, rfl, _, _, rfl, d, i, ρ7, rfl, rfl, hi, hd7, fun ρ9 H9 t l hd9 m9 ht hok => ?_⟩
    have hy9 := m9.keeps hy r0 (s1N (by decide))
    have r9 := m9.ro hy r0
    have hl : ys.length = i := by rw [hc.e3, List.length_map, hc.e1]
    have kk : ∀ b zs, H9 b = some (.tup zs) → upd H9 D (.lst (ys ++ [.ref t])) b = some (.tup zs) := fun b zs q => (upd_ne (ne_of q hy9 (by intro z; cases z))).trans q
    have w1 : Mv (S1 0) ρ9 H9 ρ9 (upd H9 D (.lst (ys ++ [.ref t]))) := Mv.refl.wr hy9 (fun xs z => by cases z) (.inr r9) _
    exact ⟨ys, hy9, Nat.lt_of_le_of_lt (show ys.length ≤ 4 by omega) (by decide), ρ9, ys ++ [.ref t], ts ++ [t], ls ++ [l], hd9.mv w1 (s1N (by decide)), (m7.trans m9).wr hy9 (fun xs z => by cases z) (.inl hD) _, upd_same, r9, ((hc.mono m9.tups).mono kk).snoc (kk _ _ ht) hok⟩
  · exact k ρ7 H7 D ys ts ls hd7 m7 hy r0 hc
def sp_rules : Sp := Sp2 fun a b H Q => ∃ (d : Addr) (lim : Nat) (ρ : Ro), a = .ref d ∧ b = .int (lim : Int) ∧ DAt ρ H d ∧ lim < 1000 ∧
  ∀ ρ' H' t (y : Way) (kp : Bool) (ch : Cho) (bd : Nat), DAt ρ' H' d → Mv SL ρ H ρ' H' → H' t = some (.tup [.str (wayS y), .str (keepS kp), .str (choS ch), .int (bd : Int)]) → bd ≤ lim → Q (.ref t) H'
theorem sc_L_rules : FnScope ["_law_d", "_law_limit", "_law_writing", "_law_reading"] ["_law_d", "_law_limit"] (defScope s_L_rules) := ⟨rfl, rfl, rfl, by decide +kernel, rfl, by decide +kernel, by decide +kernel⟩
theorem c_L_rules (T : Txt K mg) : C8.Cal P w K mg base 2 "_law_rules" (sp_rules) [] := by
  refine cal_of T.F_L_rules T.g_Lrules sc_L_rules len2 (fun _ _ _ _ _ _ us hl => match us, hl with | [_, _], _ => rfl) (fun cdv A outer s H vs Q E hr h => ?_)
  obtain ⟨a, b, rfl, d, lim, ρ, rfl, rfl, hd, hlim, k⟩ := h
  refine ⟨_, pss_cons (ps_par (i := 2) (j := 3) (by rfl) sc_L_rules.nd rfl rfl (by decide) rfl rfl (pa_cons (pe_ix (r := rIxL K) ix_list (pe_lst (pa_cons (pe_str) (pa_cons (pe_str) (pa_cons (pe_str) (pa_cons (pe_str) pa_nil))))) (C8.pe_c (c_L_below T) hr (by decide) rfl (pa_cons (pv 0) (pa_cons (pe_int) pa_nil))) (fun _ _ => rfl)) (pa_cons (pe_ix (r := rIxL K) ix_list (pe_lst (pa_cons (pe_str) (pa_cons (pe_str) pa_nil))) (C8.pe_c (c_L_below T) hr (by decide) rfl (pa_cons (pv 0) (pa_cons (pe_int) pa_nil))) (fun _ _ => rfl)) pa_nil)) (by rfl))
      (pss_one (ps_ret (pe_tup (pa_cons (pv 2) (pa_cons (pv 3) (pa_cons (pe_ix (r := rIxL K) ix_list (pe_lst (pa_cons (pe_str) (pa_cons (pe_str) (pa_cons (pe_str) pa_nil)))) (C8.pe_c (c_L_below T) hr (by decide) rfl (pa_cons (pv 0) (pa_cons (pe_int) pa_nil))) (fun _ _ => rfl)) (pa_cons (C8.pe_c (c_L_below T) hr (by decide) rfl (pa_cons (pv 0) (pa_cons (pe_op op_add (pv 1) (pe_int)) pa_nil))) pa_nil))))))), ?_⟩
  refine ⟨(show (4 : Nat) ≤ sizeLine by decide), fun p1 hp1 => ?_⟩
  have m1 : Mv SL ρ H _ _ := Mv.refl.new hp1 0 (.lst [.str "through", .str "back", .str "back", .str "around"])
  have hd1 := hd.mv (Mv.refl.new hp1 0 (.lst [.str "through", .str "back", .str "back", .str "around"]) : Mv S0 ρ H _ _) (fun z => z)
  have g1 : upd H p1 (.lst [.str "through", .str "back", .str "back", .str "around"]) p1 = some (.lst [.str "through", .str "back", .str "back", .str "around"]) := upd_same
  have r1 : rs ρ p1 0 p1 = 0 := rs_same
  refine ⟨_, rfl, _, _, rfl, d, 4, _, rfl, rfl, hd1, by decide, by decide, fun H2 r hd2 m2 hr => ?_⟩
  have g2 := m2.keeps g1 r1 (s1N (by decide))
  obtain ⟨y, hy⟩ : ∃ y : Way, ([.str "through", .str "back", .str "back", .str "around"] : List V)[r]? = some (.str (wayS y)) := by
    obtain rfl | rfl | rfl | rfl : r = 0 ∨ r = 1 ∨ r = 2 ∨ r = 3 := by omega
    · exact ⟨.thr, rfl⟩
    · exact ⟨.back, rfl⟩
    · exact ⟨.back, rfl⟩
    · exact ⟨.arou, rfl⟩
  refine ⟨p1, _, _, _, rfl, rfl, SqL.of g2, atI_nat hy, ?_⟩
  have m12 := m1.trans m2
  generalize rs ρ p1 0 = ρ2 at *
  refine ⟨(show (2 : Nat) ≤ sizeLine by decide), fun p3 hp3 => ?_⟩
  have m3 := m12.new hp3 0 (.lst [.str "keep", .str "pass"])
  have hd3 := hd2.mv (Mv.refl.new hp3 0 (.lst [.str "keep", .str "pass"]) : Mv S0 ρ2 H2 _ _) (fun z => z)
  have g3 : upd H2 p3 (.lst [.str "keep", .str "pass"]) p3 = some (.lst [.str "keep", .str "pass"]) := upd_same
  have r3 : rs ρ2 p3 0 p3 = 0 := rs_same
  refine ⟨_, rfl, _, _, rfl, d, 2, _, rfl, rfl, hd3, by decide, by decide, fun H4 r4 hd4 m4 hr4 => ?_⟩
  have g4 := m4.keeps g3 r3 (s1N (by decide))
  obtain ⟨kp, hkp⟩ : ∃ kp : Bool, ([.str "keep", .str "pass"] : List V)[r4]? = some (.str (keepS kp)) := by
    obtain rfl | rfl : r4 = 0 ∨ r4 = 1 := by omega
    · exact ⟨true, rfl⟩
    · exact ⟨false, rfl⟩
  refine ⟨p3, _, _, _, rfl, rfl, SqL.of g4, atI_nat hkp, _, _, rfl, ?_⟩
  have m34 := m3.trans m4
  generalize rs ρ2 p3 0 = ρ4 at *
  refine ⟨_, rfl, _, rfl, (show (3 : Nat) ≤ sizeLine by decide), fun p5 hp5 => ?_⟩
  have m5 := m34.new hp5 0 (.lst [.str "used", .str "came", .str "rare"])
  have hd5 := hd4.mv (Mv.refl.new hp5 0 (.lst [.str "used", .str "came", .str "rare"]) : Mv S0 ρ4 H4 _ _) (fun z => z)
  have g5 : upd H4 p5 (.lst [.str "used", .str "came", .str "rare"]) p5 = some (.lst [.str "used", .str "came", .str "rare"]) := upd_same
  have r5 : rs ρ4 p5 0 p5 = 0 := rs_same
  refine ⟨_, rfl, _, _, rfl, d, 3, _, rfl, rfl, hd5, by decide, by decide, fun H6 r6 hd6 m6 hr6 => ?_⟩
  have g6 := m6.keeps g5 r5 (s1N (by decide))
  obtain ⟨ch, hch⟩ : ∃ ch : Cho, ([.str "used", .str "came", .str "rare"] : List V)[r6]? = some (.str (choS ch)) := by
    obtain rfl | rfl | rfl : r6 = 0 ∨ r6 = 1 ∨ r6 = 2 := by omega
    · exact ⟨.used, rfl⟩
    · exact ⟨.came, rfl⟩
    · exact ⟨.rare, rfl⟩
  refine ⟨p5, _, _, _, rfl, rfl, SqL.of g6, atI_nat hch, ?_⟩
  refine ⟨_, rfl, _, rfl, _, _, rfl, rfl, _, _, rfl, d, lim + 1, _, rfl, rfl, hd6, by omega, by omega, fun H7 bd hd7 m7 hbd => ⟨(show (4 : Nat) ≤ sizeLine by decide), fun t ht => ?_⟩⟩
  exact k _ _ t y kp ch bd (hd7.mv (Mv.refl.new ht 0 _ : Mv S0 _ H7 _ _) (fun z => z)) (((m5.trans m6).trans m7).new ht 0 _) upd_same (by omega)
def SPw : Nat → Prop := fun n => 1000 ≤ n ∧ n < 2000
/-- Pair(.., recipes = ..) -/
theorem kb_P_init (T : Txt K mg) : ∃ mv : List Value, KBn K (fdOf K (He.ma K (He.ga K "Pair") "__init__")) ["self", "blocks", "slots", "rules", "recipes"] 4 ["recipes"] (fun us ws => us ++ ws) (fun vs zs => vs ++ zs) :=
  T.F_P_init.kbinds0 4 ["recipes"] [] (fun us mz ws => us ++ ws) (by simp) (by simp) (fun r1 _ r3 => r1.append r3) fun D doc pm an cdv ct us mv ws h1 h2 h3 => match us, h1, ws, h3, mv, h2 with
    | [a, b, c, d], _, [e], _, [], _ => rfl
def sp_pair (K : PySem.W.Frag) : Sp := Sp4 fun a b d e H Q => ∃ (c : Cfg) (ρ : Ro) (tr l : Addr) (vs : List V) (nb ns : Nat), a = .int (nb : Int) ∧ b = .int (ns : Int) ∧ d = .ref tr ∧ e = .ref l ∧ H tr = some (.tup (ruleV c)) ∧ H l = some (.lst vs) ∧ Rcps H c vs ∧ OkC c ∧ c.bound ≤ 8 ∧ 1 ≤ nb ∧ nb ≤ 16 ∧ 1 ≤ ns ∧ ns ≤ 8 ∧ ρ l = 0 ∧
  ∀ ρ' H' p, PairAt K c ρ' H' p ⟨nones ns, 1, 0, 0⟩ ⟨Dk.new nb 0, Dk.new ns none⟩ true → Mv SPw ρ H ρ' H' → Q (.ref p) H'
theorem sc_L_pair : FnScope ["_law_blocks", "_law_slots", "_law_rules_here", "_law_orders", "_law_told"] ["_law_blocks", "_law_slots", "_law_rules_here", "_law_orders"] (defScope s_L_pair) := ⟨rfl, rfl, rfl, by decide +kernel, rfl, by decide +kernel, by decide +kernel⟩
theorem c_L_pair (T : Txt K mg) : C8.Cal P w K mg base 7 "_law_pair" (sp_pair K) [] := by
  refine cal_of T.F_L_pair T.g_Lpair sc_L_pair len4 (fun _ _ _ _ _ _ us hl => match us, hl with | [_, _, _, _], _ => rfl) (fun cdv A outer s H vs Q E hr h => ?_)
  obtain ⟨a, b, d, e, rfl, c, ρ, tr, l, vs, nb, ns, rfl, rfl, rfl, rfl, htr, hl, hrc, ok, hbd, b1, b2, n1, n2, rl, k⟩ := h
  obtain ⟨mv, kbPair⟩ := kb_P_init T
  obtain ⟨t0, z0, _⟩ := hrc.at (i := 0) (by decide)
  obtain ⟨t1, z1, _⟩ := hrc.at (i := 1) (by decide)
  obtain ⟨t2, z2, _⟩ := hrc.at (i := 2) (by decide)
  obtain ⟨t3, z3, _⟩ := hrc.at (i := 3) (by decide)
  have hvs : vs = [.ref t0, .ref t1, .ref t2, .ref t3] := by
    obtain ⟨u0, u1, u2, u3, e, _⟩ := hrc.ex
    subst e
    cases z0
    cases z1
    cases z2
    cases z3
    rfl
  subst hvs
  refine ⟨_, pss_cons (ps_set (i := 4) sc_L_pair.nd rfl (.inl rfl) (C8.pe_mk (k_Rc_init T) hr (by decide) rfl (pa_cons (pe_ix (r := rIxL K) ix_list (pv 3) (pe_int) (fun _ _ => rfl)) (pa_cons (pe_ix (r := rIxL K) ix_list (pv 3) (pe_int) (fun _ _ => rfl)) (pa_cons (pe_ix (r := rIxL K) ix_list (pv 3) (pe_int) (fun _ _ => rfl)) (pa_cons (pe_ix (r := rIxL K) ix_list (pv 3) (pe_int) (fun _ _ => rfl)) pa_nil))))))
      (pss_one (ps_ret (pe_makeK (n := 3) T.mk_Pair (f_P_init T) (hr.mono (by decide)) rfl T.g_Pair kbPair pass0 (pa_cons (pv 0) (pa_cons (pv 1) (pa_cons (C8.pe_mk (k_Rr_init T) hr (by decide) rfl (pa_cons (pe_ix (r := rIxT K) ix_tup (pv 2) (pe_int) (fun _ _ => rfl)) (pa_cons (pe_ix (r := rIxT K) ix_tup (pv 2) (pe_int) (fun _ _ => rfl)) (pa_cons (pe_ix (r := rIxT K) ix_tup (pv 2) (pe_int) (fun _ _ => rfl)) (pa_cons (pe_ix (r := rIxT K) ix_tup (pv 2) (pe_int) (fun _ _ => rfl)) pa_nil))))) pa_nil))) (pk_cons (pv 4) pk_nil)))), ?_⟩
  refine ⟨_, rfl, _, _, _, _, rfl, rfl, SqL.of hl, rfl, _, rfl, _, _, _, _, rfl, rfl, SqL.of hl, rfl, _, rfl, _, _, _, _, rfl, rfl, SqL.of hl, rfl, _, rfl, _, _, _, _, rfl, rfl, SqL.of hl, rfl, fun x1 dx1 hx1 hdx1 hne1 => ?_⟩
  have ma : Mv S0 ρ H (rs (rs ρ dx1 0) x1 1101) _ := (Mv.refl.new hdx1 0 (.own x1)).new ((upd_ne (Ne.symm hne1)).trans hx1) 1101 (.ins (He.ga K "Recipes") dx1 [])
  refine ⟨_, _, _, _, _, rfl, c, rs (rs ρ dx1 0) x1 1101, x1, dx1, rfl, hrc.mv ma.tups, ok, upd_same, rs_same, fun ρ1 H1 g1 mb => ⟨rfl, ?_⟩⟩
  have m1 : Mv SPw ρ H ρ1 H1 := (ma.mono s0_sp).trans (mb.mono fun n z => by subst z; exact ⟨by decide, by decide⟩)
  have htr1 := m1.tups _ _ htr
  refine ⟨_, rfl, _, rfl, _, rfl, _, _, _, _, rfl, rfl, SqT.of htr1, rfl, _, rfl, _, _, _, _, rfl, rfl, SqT.of htr1, rfl, _, rfl, _, _, _, _, rfl, rfl, SqT.of htr1, rfl, _, rfl, _, _, _, _, rfl, rfl, SqT.of htr1, rfl, fun x2 dx2 hx2 hdx2 hne2 => ?_⟩
  have mc : Mv S0 ρ1 H1 (rs (rs ρ1 dx2 0) x2 1100) _ := (Mv.refl.new hdx2 0 (.own x2)).new ((upd_ne (Ne.symm hne2)).trans hx2) 1100 (.ins (He.ga K "Rules") dx2 [])
  refine ⟨_, _, _, _, _, rfl, c, rs (rs ρ1 dx2 0) x2 1100, x2, dx2, rfl, rfl, rfl, rfl, rfl, hbd, upd_same, rs_same, fun ρ3 H3 g3 md => ⟨rfl, ?_⟩⟩
  have s3 : Mv (fun n => n = 1100) ρ1 H1 ρ3 H3 := (mc.mono s0_sp).trans md
  have g1' := g1.mv s3 (by decide)
  have m3 := m1.trans (s3.mono (S' := SPw) fun n z => by subst z; exact ⟨by decide, by decide⟩)
  refine ⟨_, rfl, rfl, rfl, fun x4 dx4 hx4 hdx4 hne4 => ?_⟩
  have me : Mv S0 ρ3 H3 (rs (rs ρ3 dx4 0) x4 1000) _ := (Mv.refl.new hdx4 0 (.own x4)).new ((upd_ne (Ne.symm hne4)).trans hx4) 1000 (.ins (He.ga K "Pair") dx4 [])
  refine ⟨_, _, _, _, _, rfl, c, rs (rs ρ3 dx4 0) x4 1000, x4, dx4, x2, x1, nb, ns, rfl, rfl, rfl, rfl, rfl, g3.mv me (fun z => z), g1'.mv me (fun z => z), upd_same, rs_same, b1, b2, n1, n2, fun ρ5 H5 g5 mf => ⟨rfl, ?_⟩⟩
  exact k ρ5 H5 x4 g5 ((m3.trans (me.mono s0_sp)).trans (mf.mono fun n z => ⟨z.1, Nat.lt_trans z.2 (by decide)⟩))
end
end Kb
set_option Elab.async false
set_option linter.all false
set_option maxRecDepth 100000
set_option maxHeartbeats 4000000
namespace Kb
open PySem PySem.Spec PyProof.Rows L2
structure BM (ρ0 : Ro) (H0 : Hp) (ρ : Ro) (H : Hp) (p x1 x3 : Addr) (nb ns : Nat) (kv : List (Key × V)) (L : List (Addr × HO × Nat)) : Prop where
  hp : H p = some (.dK kv)
  rp : ρ p = 2000
  h0 : H0 p = none
  d : MDkAt cI 2010 ρ H x1 (Dk.new nb (0 : Int))
  e : MDkAt cR 2020 ρ H x3 (Dk.new ns (none : Option Rec))
  m : Mv S0 ρ0 H0 ρ H
  l : ∀ t ∈ L, H t.1 = some t.2.1 ∧ ρ t.1 = t.2.2 ∧ t.2.2 ≠ 2000
section
variable {ρ0 ρ : Ro} {H0 H : Hp} {p x1 x3 : Addr} {nb ns : Nat} {kv : List (Key × V)} {L : List (Addr × HO × Nat)}
theorem BM.put (h : BM ρ0 H0 ρ H p x1 x3 nb ns kv L) (kv' : List (Key × V)) : BM ρ0 H0 ρ (upd H p (.dK kv')) p x1 x3 nb ns kv' L := by
  have s : Mv (S1 2000) ρ H ρ (upd H p (.dK kv')) := Mv.refl.wr h.hp (fun xs z => by cases z) (.inr h.rp) _
  exact ⟨upd_same, h.rp, h.h0, h.d.mv s fun i hi => s1N (by omega), h.e.mv s fun i hi => s1N (by omega), h.m.wr h.hp (fun xs z => by cases z) (.inl h.h0) _, fun t ht => let ⟨z1, z2, z3⟩ := h.l t ht; ⟨s.keeps z1 z2 (s1N z3), z2, z3⟩⟩
theorem BM.new (h : BM ρ0 H0 ρ H p x1 x3 nb ns kv L) {q : Addr} (hq : H q = none) (k : Nat) (o : HO) : BM ρ0 H0 (rs ρ q k) (upd H q o) p x1 x3 nb ns kv L := by
  have s : Mv S0 ρ H (rs ρ q k) (upd H q o) := Mv.refl.new hq k o
  exact ⟨s.at0 h.hp, s.ro h.hp h.rp, h.h0, h.d.mv s fun i hi z => z, h.e.mv s fun i hi z => z, h.m.trans s, fun t ht => let ⟨z1, z2, z3⟩ := h.l t ht; ⟨s.at0 z1, s.ro z1 z2, z3⟩⟩
theorem BM.add (h : BM ρ0 H0 ρ H p x1 x3 nb ns kv L) {q : Addr} (hq : H q = none) (k : Nat) (hk : k ≠ 2000) (o : HO) : BM ρ0 H0 (rs ρ q k) (upd H q o) p x1 x3 nb ns kv ((q, o, k) :: L) := by
  have b := h.new hq k o
  refine ⟨b.hp, b.rp, b.h0, b.d, b.e, b.m, fun t ht => ?_⟩
  rcases List.mem_cons.mp ht with z | z
  · rw [z]
    exact ⟨upd_same, rs_same, hk⟩
  · exact b.l t z
end
section
variable {P : Program} {w : World} {K : PySem.W.Frag} {mg : Str → Option Value} {base : Heap}
def sp_disk : Sp := Sp2 fun a b H Q => ∃ (α : Type) (c : Cell α) (r : Nat) (ρ : Ro) (n : Nat) (x : α), a = .int (n : Int) ∧ c.R H x b ∧ n ≤ 1000 ∧
  ∀ ρ' H' q, MDkAt c r ρ' H' q (Dk.new n x) → Mv S0 ρ H ρ' H' → Q (.ref q) H'
theorem sc_L_disk : FnScope ["_law_cells", "_law_what"] ["_law_cells", "_law_what"] (defScope s_L_disk) := ⟨rfl, rfl, rfl, by decide +kernel, rfl, by decide +kernel, by decide +kernel⟩
theorem c_L_disk (T : Txt K mg) : C8.Cal P w K mg base 1 "_law_disk" (sp_disk) [] := by
  refine cal_of T.F_L_disk T.g_Ldisk sc_L_disk len2 (fun _ _ _ _ _ _ us hl => match us, hl with | [_, _], _ => rfl) (fun cdv A outer s H vs Q E hr h => ?_)
  obtain ⟨a, e, rfl, α, c, r, ρ, n, x, rfl, he, hn, k⟩ := h
  refine ⟨_, pss_one (ps_ret (pe_lst (pa_cons (pe_op op_rep (pe_lst (pa_cons (pv 1) pa_nil)) (pv 0)) (pa_cons (pe_op op_rep (pe_lst (pa_cons (pv 1) pa_nil)) (pv 0)) (pa_cons (pe_lst (pa_nil)) (pa_cons (pe_lst (pa_cons (pe_int) (pa_cons (pe_int) (pa_cons (pe_int) pa_nil)))) pa_nil)))))), ?_⟩
  refine ⟨_, rfl, (show (1 : Nat) ≤ sizeLine by decide), fun p1 hp1 => ⟨_, rfl, p1, (n : Int), _, rfl, rfl, upd_same, by omega, by omega, by unfold sizeLine; rw [Int.toNat_natCast, List.length_singleton]; omega, fun a1 ha1 => ?_⟩⟩
  rw [Int.toNat_natCast, rep_flat]
  have m1 : Mv S0 ρ H _ _ := (Mv.refl.new hp1 0 (.lst [e])).new ha1 (r + 1) (.lst (List.replicate n e))
  have g1 : upd (upd H p1 (.lst [e])) a1 (.lst (List.replicate n e)) a1 = some (.lst (List.replicate n e)) := upd_same
  have r1 : rs (rs ρ p1 0) a1 (r + 1) a1 = r + 1 := rs_same
  generalize upd (upd H p1 (.lst [e])) a1 (.lst (List.replicate n e)) = H1 at *
  generalize rs (rs ρ p1 0) a1 (r + 1) = ρ1 at *
  refine ⟨_, rfl, (show (1 : Nat) ≤ sizeLine by decide), fun p2 hp2 => ⟨_, rfl, p2, (n : Int), _, rfl, rfl, upd_same, by omega, by omega, by unfold sizeLine; rw [Int.toNat_natCast, List.length_singleton]; omega, fun a2 ha2 => ?_⟩⟩
  rw [Int.toNat_natCast, rep_flat]
  have m2 : Mv S0 ρ1 H1 _ _ := (Mv.refl.new hp2 0 (.lst [e])).new ha2 (r + 2) (.lst (List.replicate n e))
  have g2 : upd (upd H1 p2 (.lst [e])) a2 (.lst (List.replicate n e)) a2 = some (.lst (List.replicate n e)) := upd_same
  have r2 : rs (rs ρ1 p2 0) a2 (r + 2) a2 = r + 2 := rs_same
  generalize upd (upd H1 p2 (.lst [e])) a2 (.lst (List.replicate n e)) = H2 at *
  generalize rs (rs ρ1 p2 0) a2 (r + 2) = ρ2 at *
  refine ⟨(show (0 : Nat) ≤ sizeLine by decide), fun a3 ha3 => ?_⟩
  have m3 : Mv S0 ρ2 H2 _ _ := Mv.refl.new ha3 (r + 3) (.lst [])
  have g3 : upd H2 a3 (.lst []) a3 = some (.lst []) := upd_same
  have r3 : rs ρ2 a3 (r + 3) a3 = r + 3 := rs_same
  generalize upd H2 a3 (.lst []) = H3 at *
  generalize rs ρ2 a3 (r + 3) = ρ3 at *
  refine ⟨(show (3 : Nat) ≤ sizeLine by decide), fun a4 ha4 => ?_⟩
  have m4 : Mv S0 ρ3 H3 _ _ := Mv.refl.new ha4 (r + 4) (.lst [.int 0, .int 0, .int 0])
  have g4 : upd H3 a4 (.lst [.int 0, .int 0, .int 0]) a4 = some (.lst [.int 0, .int 0, .int 0]) := upd_same
  have r4 : rs ρ3 a4 (r + 4) a4 = r + 4 := rs_same
  generalize upd H3 a4 (.lst [.int 0, .int 0, .int 0]) = H4 at *
  generalize rs ρ3 a4 (r + 4) = ρ4 at *
  refine ⟨(show (4 : Nat) ≤ sizeLine by decide), fun q hq => ?_⟩
  have m5 : Mv S0 ρ4 H4 _ _ := Mv.refl.new hq r (.lst [.ref a1, .ref a2, .ref a3, .ref a4])
  have t4 := m4.trans m5
  have t3 := m3.trans t4
  have t2 := m2.trans t3
  have t1 := m1.trans t2
  exact k _ _ q ⟨⟨a1, a2, a3, a4⟩, upd_same, rs_same, ⟨_, t2.at0 g1, all_rep (c.mono t1.tups he) n⟩, ⟨_, t3.at0 g2, all_rep (c.mono t1.tups he) n⟩, ⟨_, t4.at0 g3, .nil⟩, m5.at0 g4, t2.ro g1 r1, t3.ro g2 r2, t4.ro g3 r3, m5.ro g4 r4⟩ t1
def sp_new : Sp := Sp4 fun a b d e H Q => ∃ (c : Cfg) (ρ : Ro) (tr l : Addr) (vs : List V) (nb ns : Nat), a = .int (nb : Int) ∧ b = .int (ns : Int) ∧ d = .ref tr ∧ e = .ref l ∧ H tr = some (.tup (ruleV c)) ∧ H l = some (.lst vs) ∧ Rcps H c vs ∧ nb ≤ 16 ∧ ns ≤ 8 ∧ ρ l = 0 ∧
  ∀ ρ' H' p, ModAt c ρ' H' p ⟨nones ns, 1, 0, 0⟩ ⟨Dk.new nb 0, Dk.new ns none⟩ true → Mv S0 ρ H ρ' H' → Q (.ref p) H'
theorem sc_L_new : FnScope ["_law_blocks", "_law_slots", "_law_rules_here", "_law_orders", "_law_m"] ["_law_blocks", "_law_slots", "_law_rules_here", "_law_orders"] (defScope s_L_new) := ⟨rfl, rfl, rfl, by decide +kernel, rfl, by decide +kernel, by decide +kernel⟩
theorem c_L_new (T : Txt K mg) : C8.Cal P w K mg base 2 "_law_new" (sp_new) [] := by
  refine cal_of T.F_L_new T.g_Lnew sc_L_new len4 (fun _ _ _ _ _ _ us hl => match us, hl with | [_, _, _, _], _ => rfl) (fun cdv A outer s H vs Q E hr h => ?_)
  obtain ⟨a, b, d, e, rfl, c, ρ, tr, l, vs, nb, ns, rfl, rfl, rfl, rfl, htr, hl, hrc, b2, n2, rl, k⟩ := h
  refine ⟨_, pss_cons (ps_set (i := 4) sc_L_new.nd rfl (.inl rfl) (pe_disp (pps_cons (pe_str) (C8.pe_c (c_L_disk T) hr (by decide) rfl (pa_cons (pv 0) (pa_cons (pe_int) pa_nil))) (pps_cons (pe_str) (C8.pe_c (c_L_disk T) hr (by decide) rfl (pa_cons (pv 1) (pa_cons (pe_non) pa_nil))) (pps_cons (pe_str) (pv 2) (pps_cons (pe_str) (pv 3) (pps_nil))))) (by rfl) (by rfl) (by intro z; cases z) (by decide)))
      (pss_cons (ps_asg (pe_tup (pa_cons (pe_dnewK) (pa_cons (pe_int) (pa_cons (pe_int) (pa_cons (pe_int) pa_nil))))) (pg_tup (n := 4) rfl (pgs_cons (pg_sub (pv 4) (pe_str) (set_dict (hu_of hr))) (pgs_cons (pg_sub (pv 4) (pe_str) (set_dict (hu_of hr))) (pgs_cons (pg_sub (pv 4) (pe_str) (set_dict (hu_of hr))) (pgs_cons (pg_sub (pv 4) (pe_str) (set_dict (hu_of hr))) pgs_nil))))))
      (pss_cons (ps_asg (pe_tup (pa_cons (pe_non) (pa_cons (pe_bl) (pa_cons (pe_op op_rep (pe_lst (pa_cons (pe_int) pa_nil)) (pe_int)) pa_nil)))) (pg_tup (n := 3) rfl (pgs_cons (pg_sub (pv 4) (pe_str) (set_dict (hu_of hr))) (pgs_cons (pg_sub (pv 4) (pe_str) (set_dict (hu_of hr))) (pgs_cons (pg_sub (pv 4) (pe_str) (set_dict (hu_of hr))) pgs_nil)))))
      (pss_one (ps_ret (pv 4))))), ?_⟩
  refine fun p hp => ?_
  have m0 : Mv S0 ρ H (rs ρ p 2000) _ := Mv.refl.new hp 2000 (.dK [])
  have hp0 : upd H p (.dK []) p = some (.dK []) := upd_same
  refine ⟨_, rfl, _, _, rfl, Int, cI, 2010, rs ρ p 2000, nb, 0, rfl, rfl, by omega, fun ρ1 H1 x1 d1 m1 => ?_⟩
  refine ⟨_, rfl, _, _, rfl, Option Rec, cR, 2020, ρ1, ns, none, rfl, rfl, by omega, fun ρ2 H2 x3 e2 m2 => ?_⟩
  have m12 := m1.trans m2
  have bm : BM ρ H ρ2 H2 p x1 x3 nb ns [] [] := ⟨m12.at0 hp0, m12.ro hp0 rs_same, hp, d1.mv m2 fun i hi z => z, e2, m0.trans m12, fun t ht => absurd ht List.not_mem_nil⟩
  refine ⟨_, rfl, _, rfl, bm.hp, [(.inr "slow", .ref x1), (.inr "fast", .ref x3), (.inr "rules", .ref tr), (.inr "recipes", .ref l)], rfl, (show (4 : Nat) ≤ 15 by decide), ?_⟩
  have bm := bm.put [(.inr "slow", .ref x1), (.inr "fast", .ref x3), (.inr "rules", .ref tr), (.inr "recipes", .ref l)]
  refine fun q hq => ⟨(show (4 : Nat) ≤ sizeLine by decide), fun t ht => ?_⟩
  have bm := (bm.add hq 2030 (by decide) (.dK [])).new ht 0 (.tup [.ref q, .int 1, .int 0, .int 0])
  refine ⟨t, _, rfl, SqT.of upd_same, rfl, ?_⟩
  refine ⟨_, _, rfl, _, rfl, p, _, rfl, DPut.k (k := .inr "known") bm.hp (show (4 : Nat) < sizeLine by decide), ?_⟩
  have bm := bm.put [(.inr "slow", .ref x1), (.inr "fast", .ref x3), (.inr "rules", .ref tr), (.inr "recipes", .ref l), (.inr "known", .ref q)]
  refine ⟨_, _, rfl, _, rfl, p, _, rfl, DPut.k (k := .inr "turn") bm.hp (show (5 : Nat) < sizeLine by decide), ?_⟩
  have bm := bm.put [(.inr "slow", .ref x1), (.inr "fast", .ref x3), (.inr "rules", .ref tr), (.inr "recipes", .ref l), (.inr "known", .ref q), (.inr "turn", .int 1)]
  refine ⟨_, _, rfl, _, rfl, p, _, rfl, DPut.k (k := .inr "begun") bm.hp (show (6 : Nat) < sizeLine by decide), ?_⟩
  have bm := bm.put [(.inr "slow", .ref x1), (.inr "fast", .ref x3), (.inr "rules", .ref tr), (.inr "recipes", .ref l), (.inr "known", .ref q), (.inr "turn", .int 1), (.inr "begun", .int 0)]
  refine ⟨_, _, rfl, _, rfl, p, _, rfl, DPut.k (k := .inr "hits") bm.hp (show (7 : Nat) < sizeLine by decide), ?_⟩
  have bm := bm.put [(.inr "slow", .ref x1), (.inr "fast", .ref x3), (.inr "rules", .ref tr), (.inr "recipes", .ref l), (.inr "known", .ref q), (.inr "turn", .int 1), (.inr "begun", .int 0), (.inr "hits", .int 0)]
  refine ⟨rfl, ?_⟩
  refine ⟨(show (1 : Nat) ≤ sizeLine by decide), fun q6 hq6 => ⟨q6, 6, _, rfl, rfl, upd_same, by decide, by decide, (show (6 : Nat) ≤ sizeLine by decide), fun q7 hq7 => ⟨(show (3 : Nat) ≤ sizeLine by decide), fun t2 ht2 => ?_⟩⟩⟩
  have bm := ((bm.new hq6 0 (.lst [.int 0])).add hq7 2001 (by decide) (.lst [.int 0, .int 0, .int 0, .int 0, .int 0, .int 0])).new ht2 0 (.tup [.non, .bl true, .ref q7])
  refine ⟨t2, _, rfl, SqT.of upd_same, rfl, ?_⟩
  refine ⟨_, _, rfl, _, rfl, p, _, rfl, DPut.k (k := .inr "left") bm.hp (show (8 : Nat) < sizeLine by decide), ?_⟩
  have bm := bm.put [(.inr "slow", .ref x1), (.inr "fast", .ref x3), (.inr "rules", .ref tr), (.inr "recipes", .ref l), (.inr "known", .ref q), (.inr "turn", .int 1), (.inr "begun", .int 0), (.inr "hits", .int 0), (.inr "left", .non)]
  refine ⟨_, _, rfl, _, rfl, p, _, rfl, DPut.k (k := .inr "on") bm.hp (show (9 : Nat) < sizeLine by decide), ?_⟩
  have bm := bm.put [(.inr "slow", .ref x1), (.inr "fast", .ref x3), (.inr "rules", .ref tr), (.inr "recipes", .ref l), (.inr "known", .ref q), (.inr "turn", .int 1), (.inr "begun", .int 0), (.inr "hits", .int 0), (.inr "left", .non), (.inr "on", .bl true)]
  refine ⟨_, _, rfl, _, rfl, p, _, rfl, DPut.k (k := .inr "past") bm.hp (show (10 : Nat) < sizeLine by decide), ?_⟩
  have bm := bm.put [(.inr "slow", .ref x1), (.inr "fast", .ref x3), (.inr "rules", .ref tr), (.inr "recipes", .ref l), (.inr "known", .ref q), (.inr "turn", .int 1), (.inr "begun", .int 0), (.inr "hits", .int 0), (.inr "left", .non), (.inr "on", .bl true), (.inr "past", .ref q7)]
  obtain ⟨l1, l2, _⟩ := bm.l _ List.mem_cons_self
  obtain ⟨l3, l4, _⟩ := bm.l _ (List.mem_cons_of_mem _ List.mem_cons_self)
  refine ⟨rfl, _, rfl, ?_⟩
  exact k _ _ p ⟨⟨x1, x3, tr, l, q, q7⟩, bm.hp, bm.rp, l1, l2, bm.m.tups _ _ htr, ⟨vs, bm.m.at0 hl, hrc.mv bm.m.tups⟩, bm.m.ro hl rl, bm.d, bm.e, ⟨by show (nones ns).length ≤ 8; unfold nones; rw [List.length_replicate]; exact n2, _, _, know_nil l3 l4⟩⟩ bm.m
def SB : Nat → Prop := fun n => n < 4000
theorem sb_sl : ∀ n, SL n → SB n := fun n z => by unfold SL S1 at z; unfold SB; omega
theorem sb_spw : ∀ n, SPw n → SB n := fun n z => by unfold SPw at z; unfold SB; omega
def sp_both (K : PySem.W.Frag) : Sp := Sp4 fun a b e g H Q => ∃ (d l : Addr) (ρ : Ro) (ys : List V) (ts : List Addr) (ls : List (List Wd)), a = .ref d ∧ b = .int 4 ∧ e = .int 4 ∧ g = .ref l ∧ DAt ρ H d ∧ H l = some (.lst ys) ∧ ρ l = 0 ∧ RcI H 4 ys ts ls ∧
  ∀ ρ' H' t p mo (c : Cfg) (nb ns : Nat), H' t = some (.tup [.ref p, .ref mo]) → PairAt K c ρ' H' p ⟨nones ns, 1, 0, 0⟩ ⟨Dk.new nb 0, Dk.new ns none⟩ true → ModAt c ρ' H' mo ⟨nones ns, 1, 0, 0⟩ ⟨Dk.new nb 0, Dk.new ns none⟩ true → DAt ρ' H' d → OkC c → 1 ≤ nb → nb ≤ 4 → 1 ≤ ns → ns ≤ 4 → Mv SB ρ H ρ' H' → Q (.ref t) H'
theorem sc_L_both : FnScope ["_law_d", "_law_most_blocks", "_law_most_slots", "_law_orders", "_law_blocks", "_law_slots", "_law_rules_here"] ["_law_d", "_law_most_blocks", "_law_most_slots", "_law_orders"] (defScope s_L_both) := ⟨rfl, rfl, rfl, by decide +kernel, rfl, by decide +kernel, by decide +kernel⟩
theorem c_L_both (T : Txt K mg) : C8.Cal P w K mg base 8 "_law_both" (sp_both K) [] := by
  refine cal_of T.F_L_both T.g_Lboth sc_L_both len4 (fun _ _ _ _ _ _ us hl => match us, hl with | [_, _, _, _], _ => rfl) (fun cdv A outer s H vs Q E hr h => ?_)
  obtain ⟨a, b, e, g, rfl, d, l, ρ, ys, ts, ls, rfl, rfl, rfl, rfl, hd, hl, rl, hrc, k⟩ := h
  refine ⟨_, pss_cons (ps_par (i := 4) (j := 5) (by rfl) sc_L_both.nd rfl rfl (by decide) rfl rfl (pa_cons (pe_op op_add (pe_int) (C8.pe_c (c_L_below T) hr (by decide) rfl (pa_cons (pv 0) (pa_cons (pv 1) pa_nil)))) (pa_cons (pe_op op_add (pe_int) (C8.pe_c (c_L_below T) hr (by decide) rfl (pa_cons (pv 0) (pa_cons (pv 2) pa_nil)))) pa_nil)) (by rfl))
      (pss_cons (ps_set (i := 6) sc_L_both.nd rfl (.inl rfl) (C8.pe_c (c_L_rules T) hr (by decide) rfl (pa_cons (pv 0) (pa_cons (pv 5) pa_nil))))
      (pss_one (ps_ret (pe_tup (pa_cons (C8.pe_c (c_L_pair T) hr (by decide) rfl (pa_cons (pv 4) (pa_cons (pv 5) (pa_cons (pv 6) (pa_cons (pv 3) pa_nil))))) (pa_cons (C8.pe_c (c_L_new T) hr (by decide) rfl (pa_cons (pv 4) (pa_cons (pv 5) (pa_cons (pv 6) (pa_cons (pv 3) pa_nil))))) pa_nil)))))), ?_⟩
  refine ⟨_, rfl, _, rfl, _, _, rfl, d, 4, ρ, rfl, rfl, hd, by decide, by decide, fun H1 r1 hd1 m1 hr1 => ⟨_, _, rfl, rfl, ?_⟩⟩
  refine ⟨_, rfl, _, rfl, _, _, rfl, d, 4, ρ, rfl, rfl, hd1, by decide, by decide, fun H2 r2 hd2 m2 hr2 => ⟨_, _, rfl, rfl, _, _, rfl, ?_⟩⟩
  have m12 := m1.trans m2
  refine ⟨_, rfl, _, rfl, _, _, rfl, d, 1 + r2, ρ, rfl, by rw [Int.natCast_add]; rfl, hd2, by omega, fun ρ3 H3 tr y kp ch bd hd3 m3 htr hbd => ?_⟩
  have m13 := m12.trans m3
  have hl3 := m13.keeps hl rl (s1N (by decide))
  have rl3 := m13.ro hl rl
  have hrc3 := hrc.mono m13.tups
  obtain ⟨e1, e2, e3, e4⟩ := hrc3
  match ts, ls, e1, e2, e3, e4 with
  | [t0, t1, t2, t3], [l0, l1, l2, l3], _, _, e3, e4 =>
    obtain ⟨f0, o0⟩ := e4 0 t0 l0 rfl rfl
    obtain ⟨f1, o1⟩ := e4 1 t1 l1 rfl rfl
    obtain ⟨f2, o2⟩ := e4 2 t2 l2 rfl rfl
    obtain ⟨f3, o3⟩ := e4 3 t3 l3 rfl rfl
    subst e3
    have rc : Rcps H3 ⟨y, kp, ch, bd, l0, l1, l2, l3⟩ [.ref t0, .ref t1, .ref t2, .ref t3] := ⟨t0, t1, t2, t3, rfl, f0, f1, f2, f3⟩
    have okc : OkC ⟨y, kp, ch, bd, l0, l1, l2, l3⟩ := ⟨o0, o1, o2, o3⟩
    refine ⟨_, rfl, _, rfl, _, rfl, _, rfl, _, _, _, _, rfl, ⟨y, kp, ch, bd, l0, l1, l2, l3⟩, ρ3, tr, l, _, 1 + r1, 1 + r2, by rw [Int.natCast_add]; rfl, by rw [Int.natCast_add]; rfl, rfl, rfl, htr, hl3, rc, okc, by show bd ≤ 8; omega, by omega, by omega, by omega, by omega, rl3, fun ρ4 H4 p g4 m4 => ?_⟩
    have hl4 := m4.keeps hl3 rl3 (by intro z; exact absurd z.1 (by decide))
    have rl4 := m4.ro hl3 rl3
    refine ⟨_, rfl, _, rfl, _, rfl, _, rfl, _, _, _, _, rfl, ⟨y, kp, ch, bd, l0, l1, l2, l3⟩, ρ4, tr, l, _, 1 + r1, 1 + r2, by rw [Int.natCast_add]; rfl, by rw [Int.natCast_add]; rfl, rfl, rfl, m4.tups _ _ htr, hl4, rc.mv m4.tups, by omega, by omega, rl4, fun ρ5 H5 mo g5 m5 => ⟨(show (2 : Nat) ≤ sizeLine by decide), fun t ht => ?_⟩⟩
    have m6 : Mv S0 ρ5 H5 _ _ := Mv.refl.new ht 0 (.tup [.ref p, .ref mo])
    exact k _ _ t p mo _ (1 + r1) (1 + r2) upd_same ((g4.mv0 m5).mv0 m6) (g5.mv0 m6) (((hd3.mv m4 (fun z => absurd z.2 (by decide))).mv m5 (fun z => z)).mv m6 (fun z => z)) okc (by omega) (by omega) (by omega) (by omega) ((((m13.mono sb_sl).trans (m4.mono sb_spw)).trans (m5.mono s0_sp)).trans (m6.mono s0_sp))
end
end Kb
set_option Elab.async false
set_option linter.all false
set_option maxRecDepth 100000
set_option maxHeartbeats 4000000
namespace Kb
open PySem PySem.Spec PyProof.Rows L2
theorem ModS.g {c : Cfg} {ρ : Ro} {H : Hp} {a : Addr} {A : MA} {m : Mem} {D : Ds} {on : Bool} (h : ModS c ρ H a A m D on) (x : Str) (v : V) (hv : valV (modF A m on) (.inr x) = some v) : DGet H a (.str x) (some v) := by
  rw [← hv]
  exact DGet.k (k := .inr x) h.obj
theorem DGet.up {H H' : Hp} {a : Addr} {i : V} {o : Option V} {kvs : List (Key × V)} {k : Key} (e : Rd H a (.dK kvs)) (hk : i = kV k) (ho : o = valV kvs k) : DGet H a i o := .inl ⟨kvs, k, e, hk, ho⟩
def gSl (n : Nat) : Nat × Ent → Option Nat := fun x => if x.2.r.b = n then some x.1 else none
theorem gSl_some {n : Nat} {x : Nat × Ent} {s : Nat} (h : gSl n x = some s) : x.2.r.b = n ∧ x.1 = s := by
  unfold gSl at h
  by_cases d : x.2.r.b = n
  · rw [if_pos d] at h
    exact ⟨d, Option.some.inj h⟩
  · rw [if_neg d] at h
    cases h
theorem slot_found {L : List (Nat × Ent)} {kn : Kn} {n : Nat} (h : LRep L kn) (u : Uq kn) : slotOf kn n = (L.filterMap (gSl n)).head? := by
  cases q : L.filterMap (gSl n) with
  | nil =>
    refine slotOf_none fun s e he hb => ?_
    have z : s ∈ L.filterMap (gSl n) := List.mem_filterMap.mpr ⟨(s, e), (h.mem s e).mpr he, by unfold gSl; rw [if_pos hb]⟩
    rw [q] at z
    cases z
  | cons s r =>
    have z : s ∈ L.filterMap (gSl n) := by rw [q]; exact List.mem_cons_self
    obtain ⟨x, hx, hg⟩ := List.mem_filterMap.mp z
    obtain ⟨z1, z2⟩ := gSl_some hg
    subst z2
    exact slotOf_some u ((h.mem _ _).mp hx) z1
section
variable {P : Program} {w : World} {K : PySem.W.Frag} {mg : Str → Option Value} {base : Heap}
def sp_Lslot : Sp := Sp2 fun a b H Q => ∃ (c : Cfg) (ρ : Ro) (p : Addr) (m : Mem) (D : Ds) (on : Bool) (n : Nat), a = .ref p ∧ b = .int (n : Int) ∧ ModAt c ρ H p m D on ∧ Uq m.kn ∧
  ∀ (ρ' : Ro) (H' : Hp), Mv S0 ρ H ρ' H' → Q (oV (slotOf m.kn n)) H'
theorem sc_L_slot : FnScope ["_law_m", "_law_block", "_law_found", "_law_slot_here"] ["_law_m", "_law_block"] (defScope s_L_slot) := ⟨rfl, rfl, rfl, by decide +kernel, rfl, by decide +kernel, by decide +kernel⟩
theorem c_L_slot (T : Txt K mg) : C8.Cal P w K mg base 1 "_law_slot" (sp_Lslot) [] := by
  refine cal_of T.F_L_slot T.g_Lslot sc_L_slot len2 (fun _ _ _ _ _ _ us hl => match us, hl with | [_, _], _ => rfl) (fun cdv A outer s H vs Q E hr h => ?_)
  obtain ⟨a, b, rfl, c, ρ, p, m, D, on, n, rfl, rfl, ⟨A, h⟩, u, k⟩ := h
  obtain ⟨hk8, ea, L, hk⟩ := h.kn
  have npk : p ≠ A.k := ro_ne h.role hk.role (by decide)
  have hlen := hk.rep.len
  have ho := h.obj
  refine ⟨_, pss_cons (ps_lock (ps_setLc (i := 2) (own := [("_law_slot_here", 3)]) (by rfl) sc_L_slot.nd rfl rfl (sw_true rfl rfl rfl (by decide +kernel)) (g := gName 3) (pi_keys (pe_dget (hu_of hr) (pv 0) (pe_str) (fun _ _ => rfl))) (blkOk_by (own := [("_law_slot_here", 3)]) (N := ["_law_m", "_law_block", "_law_found", "_law_slot_here"]) (sc := defScope s_L_slot) (by decide +kernel)) (fun _ _ _ _ _ => pg_name (i := 3) sc_L_slot.nd rfl (.inl rfl) (.inr rfl)) (fun _ _ _ _ _ => pts_one (pt_cmpR op_eq (pe_ix (r := rIxT K) ix_tup (pe_ix (r := rIxL K) ix_list (pe_dget (hu_of hr) (pe_dget (hu_of hr) (pv 0) (pe_str) (fun _ _ => rfl)) (pv 3) (fun _ _ => rfl)) (pe_int) (fun _ _ => rfl)) (pe_int) (fun _ _ => rfl)) (pv 1) (nomark _))) (fun _ _ _ _ _ => pv 3)))
      (pss_one (ps_ret (pe_ifExp (pt_cmpR (op_neD hr.units) (pv 2) (pe_lst (pa_nil)) (nomark _)) (pe_ix (r := rIxL K) ix_list (pv 2) (pe_int) (fun _ _ => rfl)) (pe_non)))), ?_⟩
  refine ⟨A.k, _, hk.dict, trivial, fun od => ?_⟩
  have hol := (upd_ne (o := .frz od (.dK (kvs ea L))) npk).trans ho
  have gl : ∀ H', H' p = some (.dK (modF A m on)) → DGet H' p (.str "known") (some (.ref A.k)) := fun H' z => DGet.k (k := .inr "known") z
  refine ⟨_, rfl, p, _, rfl, gl _ hol, A.k, od, rfl, .inl ⟨_, upd_same, fun D' hD => ?_⟩⟩
  refine lc_gen (ρ := ρ) walk_keys (by rw [kvs_len]; omega) cN (fun i => L[i]?.bind (gSl n)) (fun ρ' H' m => m.at0 upd_same) (fun i x ρ1 Hz H1 hi m1 y Ny Nn hNy hNn => ?_) hD fun ρ1 H1 ys m1 r0 hy ha => ?_
  · obtain ⟨rfl, ky, vv, hkv, rfl⟩ := y
    obtain ⟨s, e, hLi, hkv2⟩ := kvs_at hkv
    cases hkv2
    obtain ⟨hat, t, h1, h2⟩ := lk_ent hk hLi m1
    have hol1 := m1.at0 hol
    have hfz : H1 A.k = some (.frz od (.dK (kvs ea L))) := m1.at0 upd_same
    have hv := hk.val (s := s)
    rw [hat] at hv
    have dg : DGet H1 A.k (.int (s : Int)) (some (.ref (ea s))) := DGet.up (H' := H1) (k := .inl (s : Int)) (.inr ⟨od, hfz⟩) rfl hv.symm
    refine ⟨rfl, _, rfl, p, _, rfl, gl _ hol1, _, rfl, A.k, _, rfl, dg, ea s, _, _, _, rfl, rfl, SqL.of h1, rfl, t, _, _, _, rfl, rfl, SqT.of h2, rfl, _, rfl, rfl, _, rfl, ?_⟩
    by_cases hb : e.r.b = n
    · exact ite_tt (decide_eq_true (by rw [hb])) ⟨_, rfl, hNy _ _ _ s (by rw [hLi]; show gSl n (s, e) = _; unfold gSl; rw [if_pos hb]) rfl Mv.refl⟩
    · exact ite_ff (decide_eq_false fun z => hb (by injection z with z; omega)) (hNn _ _ (by rw [hLi]; show gSl n (s, e) = _; unfold gSl; rw [if_neg hb]) Mv.refl)
  · rw [kvs_len, fm_range] at ha
    obtain ⟨g1, g2⟩ := Mv.unlk hk.dict m1
    refine ⟨g1, ?_⟩
    have nD : D' ≠ A.k := ne_of hy g1 (by intro z; cases z)
    have hy2 := (upd_ne (o := .dK (kvs ea L)) nD).trans hy
    rw [nats_of ha] at hy2
    have hsf := slot_found hk.rep u (n := n)
    generalize upd H1 A.k (.dK (kvs ea L)) = H4 at *
    refine ⟨_, rfl, (show (0 : Nat) ≤ sizeLine by decide), fun b hb => ?_⟩
    have m4 := g2.new hb 0 (.lst [])
    have hy3 := (upd_ne (o := .lst []) (ne_of_none hy2 hb)).trans hy2
    have hy3' := hy3
    rw [natV_eq] at hy3
    refine ne_nil hy3 upd_same ⟨_, rfl, ?_⟩
    cases hq : L.filterMap (gSl n) with
    | nil =>
      refine iteF ?_
      have kk := k _ _ m4
      rw [hsf, hq] at kk
      exact kk
    | cons s r =>
      rw [hq] at hy3'
      refine iteT ⟨_, rfl, D', _, _, _, rfl, rfl, SqL.of hy3', atI_nat (j := 0) rfl, ?_⟩
      have kk := k _ _ m4
      rw [hsf, hq] at kk
      exact kk
def sp_Lbegin : Sp := Sp2 fun a b H Q => ∃ (c : Cfg) (ρ : Ro) (p : Addr) (m : Mem) (D : Ds) (on : Bool) (n : Nat), a = .ref p ∧ b = .int (n : Int) ∧ ModAt c ρ H p m D on ∧ Uq m.kn ∧
  ∀ (ρ' : Ro) (H' : Hp), ModAt c ρ' H' p (begin_ m n).2 D on → Mv SM ρ H ρ' H' → Q (oV (begin_ m n).1) H'
theorem sc_L_begin : FnScope ["_law_m", "_law_block", "_law_own"] ["_law_m", "_law_block"] (defScope s_L_begin) := ⟨rfl, rfl, rfl, by decide +kernel, rfl, by decide +kernel, by decide +kernel⟩
theorem c_L_begin (T : Txt K mg) : C8.Cal P w K mg base 2 "_law_begin" (sp_Lbegin) [] := by
  refine cal_of T.F_L_begin T.g_Lbegin sc_L_begin len2 (fun _ _ _ _ _ _ us hl => match us, hl with | [_, _], _ => rfl) (fun cdv A outer s H vs Q E hr h => ?_)
  obtain ⟨a, b, rfl, c, ρ, p, m, D, on, n, rfl, rfl, ⟨A, h0⟩, u, k⟩ := h
  refine ⟨_, pss_cons (ps_set (i := 2) sc_L_begin.nd rfl (.inl rfl) (C8.pe_c (c_L_slot T) hr (by decide) rfl (pa_cons (pv 0) (pa_cons (pv 1) pa_nil))))
      (pss_cons (ps_if (pt_cmpR op_notN (pv 2) (pe_non) (nomark _)) (pss_cons (ps_asg (pe_dget (hu_of hr) (pv 0) (pe_str) (fun _ _ => rfl)) (pg_sub (pe_dget (hu_of hr) (pe_dget (hu_of hr) (pv 0) (pe_str) (fun _ _ => rfl)) (pv 2) (fun _ _ => rfl)) (pe_int) set_list))
      (pss_cons (ps_asg (pe_callB (call_min2 rfl) (by rfl) T.f_min (by decide +kernel) (pa_cons (pe_int) (pa_cons (pe_op op_add (pe_ix (r := rIxL K) ix_list (pe_dget (hu_of hr) (pe_dget (hu_of hr) (pv 0) (pe_str) (fun _ _ => rfl)) (pv 2) (fun _ _ => rfl)) (pe_int) (fun _ _ => rfl)) (pe_int)) pa_nil))) (pg_sub (pe_dget (hu_of hr) (pe_dget (hu_of hr) (pv 0) (pe_str) (fun _ _ => rfl)) (pv 2) (fun _ _ => rfl)) (pe_int) set_list))
      (pss_one (ps_dput (hu_of hr) (pv 0) (pe_str) (pe_op op_add (pe_dget (hu_of hr) (pv 0) (pe_str) (fun _ _ => rfl)) (pe_int)) rfl)))) (pss_nil))
      (pss_cons (ps_dput (hu_of hr) (pv 0) (pe_str) (pe_op op_add (pe_dget (hu_of hr) (pv 0) (pe_str) (fun _ _ => rfl)) (pe_int)) rfl)
      (pss_one (ps_ret (pv 2))))), ?_⟩
  refine ⟨_, rfl, _, rfl, _, _, rfl, c, ρ, p, m, D, on, n, rfl, rfl, ⟨A, h0⟩, u, fun ρ1 H1 m1 => ?_⟩
  have h := h0.mv0 m1
  cases hsl : slotOf m.kn n with
  | none =>
    rw [begin_none hsl] at k
    refine ⟨_, rfl, rfl, _, rfl, ite_ff nn_none ?_⟩
    obtain ⟨g2, m2⟩ := h.obj' m.turn (m.begun + 1) m.hits on
    refine ⟨_, rfl, p, _, rfl, h.g "begun" _ rfl, _, _, rfl, rfl, _, rfl, p, _, rfl, DPut.k (k := .inr "begun") h.obj (show (11 : Nat) < sizeLine by decide), ?_⟩
    exact ⟨_, rfl, k _ _ ⟨A, g2⟩ ((m1.mono s0_sp).trans (m2.mono (s1_sm (by decide) (by decide))))⟩
  | some s =>
    rw [begin_some hsl] at k
    obtain ⟨hk8, ea, L, hk⟩ := h.kn
    obtain ⟨e, he, hb⟩ := slotOf_at hsl
    obtain ⟨r1, t, h1, h2⟩ := hk.ent s e he
    have npe : p ≠ ea s := ne_of h.obj h1 (by intro z; cases z)
    have dg := hk.dget (s := s)
    rw [he] at dg
    refine ⟨_, rfl, rfl, _, rfl, ite_tt (nn_some s) ?_⟩
    refine ⟨_, rfl, p, _, rfl, h.g "begun" _ rfl, _, rfl, p, _, rfl, h.g "known" _ rfl, _, rfl, A.k, _, rfl, dg, ea s, _, _, 2, rfl, rfl, h1, rfl, ?_⟩
    have m2 := hk.mvE hk8 he (.lst (entV t { e with used := m.begun }))
    have hk2 := hk.setE (e' := { e with used := m.begun }) he h2
    have ho2 := (upd_ne (o := .lst (entV t { e with used := m.begun })) npe).trans h.obj
    have he2 : Kn.at (m.kn.set s (some { e with used := m.begun })) s = some { e with used := m.begun } := by rw [at_set (at_lt he), if_pos rfl]
    have dg2 := hk2.dget (s := s)
    rw [he2] at dg2
    have gk2 : DGet (upd H1 (ea s) (.lst (entV t { e with used := m.begun }))) p (.str "known") (some (.ref A.k)) := DGet.k (k := .inr "known") ho2
    have h12 : upd H1 (ea s) (.lst (entV t { e with used := m.begun })) (ea s) = some (.lst (entV t { e with used := m.begun })) := upd_same
    refine ⟨_, rfl, p, _, rfl, gk2, _, rfl, A.k, _, rfl, dg2, ea s, _, _, _, rfl, rfl, SqL.of h12, rfl, _, _, rfl, rfl, ?_⟩
    refine ⟨_, _, rfl, _, rfl, p, _, rfl, gk2, _, rfl, A.k, _, rfl, dg2, ea s, _, _, 3, rfl, rfl, h12, rfl, ?_⟩
    have h2' : upd H1 (ea s) (.lst (entV t { e with used := m.begun })) t = some (.tup (recV e.r)) := (upd_ne (ne_of h2 h1 (by intro z; cases z))).trans h2
    have hk3 := hk2.setE (e' := touch e m.begun) he2 h2'
    have m3 := hk2.mvE (by rw [set_len]; exact hk8) he2 (.lst (entV t (touch e m.begun)))
    rw [List.set_set] at hk3
    have mE := modE_at he (fun e => touch e m.begun)
    have g3 := h.know' (kn := m.kn.set s (some (touch e m.begun))) ⟨by rw [set_len]; exact hk8, _, _, hk3⟩ (m2.trans m3)
    rw [mE] at k
    obtain ⟨g4, m4⟩ := g3.obj' m.turn m.begun (m.hits + 1) on
    refine ⟨_, rfl, p, _, rfl, g3.g "hits" _ rfl, _, _, rfl, rfl, _, rfl, p, _, rfl, DPut.k (k := .inr "hits") g3.obj (show (11 : Nat) < sizeLine by decide), ?_⟩
    obtain ⟨g5, m5⟩ := g4.obj' m.turn (m.begun + 1) (m.hits + 1) on
    refine ⟨_, rfl, p, _, rfl, g4.g "begun" _ rfl, _, _, rfl, rfl, _, rfl, p, _, rfl, DPut.k (k := .inr "begun") g4.obj (show (11 : Nat) < sizeLine by decide), ?_⟩
    exact ⟨_, rfl, k _ _ ⟨A, g5⟩ (((m1.mono s0_sp).trans ((m2.trans m3).mono sk_sm)).trans ((m4.mono (s1_sm (by decide) (by decide))).trans (m5.mono (s1_sm (by decide) (by decide)))))⟩
end
end Kb
set_option Elab.async false
set_option linter.all false
set_option maxRecDepth 100000
set_option maxHeartbeats 4000000
namespace Kb
open PySem PySem.Spec PyProof.Rows L2
def stepAt (H : Hp) (t : Addr) : Stp → Prop
  | .slow b v => H t = some (.tup [.str "slow", .int (b : Int), .int v])
  | .fast s r => ∃ u, H t = some (.tup [.str "fast", .int (s : Int), u]) ∧ cR.R H r u
  | .sslow => H t = some (.tup [.str "sync slow"])
  | .sfast => H t = some (.tup [.str "sync fast"])
  | .done => H t = some (.tup [.str "done"])
  | .rslow => H t = some (.tup [.str "read", .str "slow"])
  | .rfast => H t = some (.tup [.str "read", .str "fast"])
/-- a step of the law's plan -/
def cS : Cell Stp := ⟨fun H s v => ∃ t, v = .ref t ∧ stepAt H t s, fun {H H' x v} k h => by
  obtain ⟨t, e, q⟩ := h
  refine ⟨t, e, ?_⟩
  cases x with
  | fast s r => exact let ⟨u, q1, q2⟩ := q; ⟨u, k _ _ q1, cR.mono k q2⟩
  | slow b v => exact k _ _ q
  | sslow => exact k _ _ q
  | sfast => exact k _ _ q
  | done => exact k _ _ q
  | rslow => exact k _ _ q
  | rfast => exact k _ _ q⟩
section
variable {P : Program} {w : World} {K : PySem.W.Frag} {mg : Str → Option Value} {base : Heap}
def sp_Loldest : Sp := Sp1 fun a H Q => ∃ (c : Cfg) (ρ : Ro) (p : Addr) (m : Mem) (D : Ds) (on : Bool), a = .ref p ∧ ModAt c ρ H p m D on ∧
  ∀ ρ' H' q, Mv S0 ρ H ρ' H' → ρ' q = 0 → H' q = some (.lst (natV ((oldest m.kn).map (·.2)))) → Q (.ref q) H'
theorem sc_L_oldest : FnScope ["_law_m", "_law_rows", "_law_slot_here", "_law_turn"] ["_law_m"] (defScope s_L_oldest) := ⟨rfl, rfl, rfl, by decide +kernel, rfl, by decide +kernel, by decide +kernel⟩
theorem c_L_oldest (T : Txt K mg) : C8.Cal P w K mg base 1 "_law_oldest" (sp_Loldest) [] := by
  refine cal_of T.F_L_oldest T.g_Loldest sc_L_oldest len1 (fun _ _ _ _ _ _ us hl => match us, hl with | [_], _ => rfl) (fun cdv A outer s H vs Q E hr h => ?_)
  obtain ⟨a, rfl, c, ρ, p, m, D, on, rfl, ⟨A, h⟩, k⟩ := h
  obtain ⟨hk8, ea, L, hk⟩ := h.kn
  have npk : p ≠ A.k := ro_ne h.role hk.role (by decide)
  have hlen := hk.rep.len
  have ho := h.obj
  refine ⟨_, pss_cons (ps_lock (ps_setLc (i := 1) (own := [("_law_slot_here", 2)]) (by rfl) sc_L_oldest.nd rfl rfl (sw_true rfl rfl rfl (by decide +kernel)) (g := gName 2) (pi_keys (pe_dget (hu_of hr) (pv 0) (pe_str) (fun _ _ => rfl))) (blkOk_by (own := [("_law_slot_here", 2)]) (N := ["_law_m", "_law_rows", "_law_slot_here", "_law_turn"]) (sc := defScope s_L_oldest) (by decide +kernel)) (fun _ _ _ _ _ => pg_name (i := 2) sc_L_oldest.nd rfl (.inl rfl) (.inr rfl)) (fun _ _ _ _ _ => pts_one (pt_val (pe_ix (r := rIxT K) ix_tup (pe_ix (r := rIxL K) ix_list (pe_dget (hu_of hr) (pe_dget (hu_of hr) (pv 0) (pe_str) (fun _ _ => rfl)) (pv 2) (fun _ _ => rfl)) (pe_int) (fun _ _ => rfl)) (pe_int) (fun _ _ => rfl)))) (fun _ _ _ _ _ => pe_tup (pa_cons (pe_ix (r := rIxT K) ix_tup (pe_ix (r := rIxL K) ix_list (pe_dget (hu_of hr) (pe_dget (hu_of hr) (pv 0) (pe_str) (fun _ _ => rfl)) (pv 2) (fun _ _ => rfl)) (pe_int) (fun _ _ => rfl)) (pe_int) (fun _ _ => rfl)) (pa_cons (pv 2) pa_nil)))))
      (pss_one (ps_ret (pe_lc (own := [("_law_turn", 3), ("_law_slot_here", 2)]) (by rfl) sc_L_oldest.nd (g := gTup K 2 (gCons (gName 3) (gCons (gName 2) (gNil)))) (pi_list (pe_callB cr_sortedPO (by rfl) T.f_sorted (by decide +kernel) (pa_cons (pv 1) pa_nil))) (blkOk_by (own := [("_law_turn", 3), ("_law_slot_here", 2)]) (N := ["_law_m", "_law_rows", "_law_slot_here", "_law_turn"]) (sc := defScope s_L_oldest) (by decide +kernel)) (fun _ _ _ _ _ => pg_tup (n := 2) rfl (pgs_cons (pg_name (i := 3) sc_L_oldest.nd rfl (.inl rfl) (.inr rfl)) (pgs_cons (pg_name (i := 2) sc_L_oldest.nd rfl (.inl rfl) (.inr rfl)) pgs_nil))) (fun _ _ _ _ _ => pts_nil) (fun _ _ _ _ _ => pv 2)))), ?_⟩
  refine ⟨A.k, _, hk.dict, trivial, fun od => ?_⟩
  have hol := (upd_ne (o := .frz od (.dK (kvs ea L))) npk).trans ho
  have gl : ∀ H', H' p = some (.dK (modF A m on)) → DGet H' p (.str "known") (some (.ref A.k)) := fun H' z => DGet.k (k := .inr "known") z
  refine ⟨_, rfl, p, _, rfl, gl _ hol, A.k, od, rfl, .inl ⟨_, upd_same, fun D' hD => ?_⟩⟩
  refine lc_gen (ρ := ρ) walk_keys (by rw [kvs_len]; omega) cP (fun i => L[i]?.bind gDirt) (fun ρ' H' m => m.at0 upd_same) (fun i x ρ1 Hz H1 hi m1 y Ny Nn hNy hNn => ?_) hD fun ρ1 H1 ys m1 r0 hy ha => ?_
  · obtain ⟨rfl, ky, vv, hkv, rfl⟩ := y
    obtain ⟨s, e, hLi, hkv2⟩ := kvs_at hkv
    cases hkv2
    obtain ⟨hat, t, h1, h2⟩ := lk_ent hk hLi m1
    have hol1 := m1.at0 hol
    have hfz : H1 A.k = some (.frz od (.dK (kvs ea L))) := m1.at0 upd_same
    have hv := hk.val (s := s)
    rw [hat] at hv
    have dg : DGet H1 A.k (.int (s : Int)) (some (.ref (ea s))) := DGet.up (H' := H1) (k := .inl (s : Int)) (.inr ⟨od, hfz⟩) rfl hv.symm
    refine ⟨rfl, _, rfl, p, _, rfl, gl _ hol1, _, rfl, A.k, _, rfl, dg, ea s, _, _, _, rfl, rfl, SqL.of h1, rfl, t, _, _, _, rfl, rfl, SqT.of h2, rfl, _, rfl, ?_⟩
    rcases Bool.eq_false_or_eq_true e.r.d with hd | hd
    · refine ite_tt hd ⟨_, rfl, p, _, rfl, gl _ hol1, _, rfl, A.k, _, rfl, dg, ea s, _, _, _, rfl, rfl, SqL.of h1, rfl, t, _, _, _, rfl, rfl, SqT.of h2, rfl, _, rfl, (show (2 : Nat) ≤ sizeLine by decide), fun q hq => ?_⟩
      exact hNy _ _ _ (e.r.t, s) (by rw [hLi]; show gDirt (s, e) = _; unfold gDirt; rw [if_pos hd]) ⟨q, rfl, upd_same⟩ (Mv.refl.new hq 0 _)
    · exact ite_ff hd (hNn _ _ (by rw [hLi]; show gDirt (s, e) = _; unfold gDirt; rw [if_neg (by rw [hd]; decide)]) Mv.refl)
  · rw [kvs_len, fm_range] at ha
    obtain ⟨g1, g2⟩ := Mv.unlk hk.dict m1
    refine ⟨g1, ?_⟩
    have nD : D' ≠ A.k := ne_of hy g1 (by intro z; cases z)
    have hy2 := (upd_ne (o := .dK (kvs ea L)) nD).trans hy
    have ha2 : All cP (upd H1 A.k (.dK (kvs ea L))) (L.filterMap gDirt) ys := ha.mono fun b zs q => (upd_ne (ne_of q g1 (by intro z; cases z))).trans q
    generalize upd H1 A.k (.dK (kvs ea L)) = H4 at *
    refine ⟨_, rfl, ?_⟩
    dsimp only [tNil]
    refine sorted_pairs hy2 ha2 (dirt_perm hk.rep) fun q ys' hq hys => ?_
    have m3 := g2.new hq 0 (.lst ys')
    have hq4 : upd H4 q (.lst ys') q = some (.lst ys') := upd_same
    have hys4 := hys.mono (Mv.refl (S := S0) (ρ := ρ).new hq 0 (.lst ys')).tups
    have hln := hys4.len
    have hdl := dirt_le m.kn
    have hko : oldest m.kn = srt (dirt m.kn) := rfl
    rw [← hko] at hys4 hln
    refine ⟨q, rfl, ⟨_, SqL.of hq4⟩, fun D2 hD2 => lc_gen (ρ := rs ρ1 q 0) (walk_list (xs := ys')) (by omega) cN (fun i => (oldest m.kn)[i]?.bind fun x => some x.2) (fun ρ' H' m => SqL.of (m.at0 hq4)) (fun i x ρ5 Hz H5 hi m5 y Ny Nn hNy hNn => ?_) hD2 fun ρ5 H5 zs m5 r5 hz hza => ?_⟩
    · obtain ⟨rfl, hx⟩ := y
      obtain ⟨pr, hpr, t, rfl, ht⟩ := (hys4.mono m5.tups).get' hx
      refine ⟨t, _, rfl, SqT.of ht, rfl, _, _, rfl, _, _, rfl, rfl, rfl, _, rfl, ?_⟩
      exact hNy _ _ _ pr.2 (by rw [hpr]; rfl) rfl Mv.refl
    · rw [← hln, fm_range] at hza
      have e1 : (oldest m.kn).filterMap (fun x => some x.2) = (oldest m.kn).map (·.2) := List.filterMap_eq_map' ▸ rfl
      rw [e1] at hza
      rw [nats_of hza] at hz
      exact k _ _ D2 (m3.trans m5) r5 hz
def sp_Lknow : Sp := Sp3 fun a b e H Q => ∃ (c : Cfg) (ρ : Ro) (p : Addr) (m : Mem) (D : Ds) (on : Bool) (n : Nat) (rc : Rec), a = .ref p ∧ b = .int (n : Int) ∧ RecAt H rc e ∧ ModAt c ρ H p m D on ∧ n < m.kn.length ∧
  ∀ (ρ' : Ro) (H' : Hp), ModAt c ρ' H' p (know m n rc) D on → Mv SM ρ H ρ' H' → Q .non H'
theorem sc_L_know : FnScope ["_law_m", "_law_slot_here", "_law_record", "_law_now"] ["_law_m", "_law_slot_here", "_law_record"] (defScope s_L_know) := ⟨rfl, rfl, rfl, by decide +kernel, rfl, by decide +kernel, by decide +kernel⟩
theorem c_L_know (T : Txt K mg) : C8.Cal P w K mg base 1 "_law_know" (sp_Lknow) [] := by
  refine cal_of T.F_L_know T.g_Lknow sc_L_know len3 (fun _ _ _ _ _ _ us hl => match us, hl with | [_, _, _], _ => rfl) (fun cdv A outer s H vs Q E hr h => ?_)
  obtain ⟨a, b, ev, rfl, c, ρ, p, m, D, on, n, rc, rfl, rfl, ⟨tr, rfl, htr⟩, ⟨A, h⟩, hn2, k⟩ := h
  obtain ⟨hk8, ea, L, hk⟩ := h.kn
  have dg := hk.dget (s := n)
  refine ⟨_, pss_cons (ps_set (i := 3) sc_L_know.nd rfl (.inl rfl) (pe_op op_sub (pe_dget (hu_of hr) (pv 0) (pe_str) (fun _ _ => rfl)) (pe_int)))
      (pss_one (ps_if (PW.pt (pw_and (pt_cmp (pc_din (hu_of hr) (pv 1) (pe_dget (hu_of hr) (pv 0) (pe_str) (fun _ _ => rfl)))) (pw_and1 (pt_cmpR op_eq (pe_ix (r := rIxT K) ix_tup (pe_ix (r := rIxL K) ix_list (pe_dget (hu_of hr) (pe_dget (hu_of hr) (pv 0) (pe_str) (fun _ _ => rfl)) (pv 1) (fun _ _ => rfl)) (pe_int) (fun _ _ => rfl)) (pe_int) (fun _ _ => rfl)) (pe_ix (r := rIxT K) ix_tup (pv 2) (pe_int) (fun _ _ => rfl)) (nomark _))))) (pss_one (ps_asg (pv 2) (pg_sub (pe_dget (hu_of hr) (pe_dget (hu_of hr) (pv 0) (pe_str) (fun _ _ => rfl)) (pv 1) (fun _ _ => rfl)) (pe_int) set_list))) (pss_one (ps_dput (hu_of hr) (pe_dget (hu_of hr) (pv 0) (pe_str) (fun _ _ => rfl)) (pv 1) (pe_lst (pa_cons (pv 2) (pa_cons (pv 3) (pa_cons (pv 3) (pa_cons (pe_int) pa_nil))))) rfl)))), ?_⟩
  refine ⟨_, rfl, p, _, rfl, h.g "begun" _ rfl, _, _, rfl, rfl, ?_⟩
  have new : (∀ e, Kn.at m.kn n = some e → e.r.b ≠ rc.b) → ∀ q, H q = none → DGet (upd H q (.lst (entV tr ⟨rc, m.begun - 1, m.begun - 1, 1⟩))) p (.str "known") (some (.ref A.k)) ∧
      ∃ H4, DPut (upd H q (.lst (entV tr ⟨rc, m.begun - 1, m.begun - 1, 1⟩))) A.k (.int (n : Int)) (.ref q) H4 ∧ Q .non H4 := fun hne q hq => by
    have m2 : Mv S0 ρ H _ _ := Mv.refl.new hq (2030 + 1 + n) (.lst (entV tr ⟨rc, m.begun - 1, m.begun - 1, 1⟩))
    have h2 := h.mv0 m2
    have hk2 := hk.mv0 m2
    refine ⟨h2.g "known" _ rfl, _, DPut.k (k := Sum.inl (n : Int)) hk2.dict (by
      unfold sizeLine
      rw [kvs_len]
      have := hk.rep.len
      omega), ?_⟩
    obtain ⟨ea', L', hk3⟩ := hk2.putA (e := ⟨rc, m.begun - 1, m.begun - 1, 1⟩) hn2 upd_same rs_same (m2.tups _ _ htr)
    have m3 := hk2.mvK (.dK (putK (kvs ea L) (Sum.inl (n : Int)) (.ref q)))
    have g3 := h2.know' (kn := m.kn.set n (some ⟨rc, m.begun - 1, m.begun - 1, 1⟩)) ⟨by rw [set_len]; exact hk8, _, _, hk3⟩ m3
    rw [know_new hne] at k
    exact k _ _ ⟨A, g3⟩ ((m2.mono s0_sp).trans (m3.mono sk_sm))
  refine ⟨_, rfl, _, rfl, p, _, rfl, h.g "known" _ rfl, A.k, _, rfl, dg, _, rfl, ?_⟩
  cases he : Kn.at m.kn n with
  | none =>
    refine iteF (iteF ?_)
    refine ⟨_, rfl, _, rfl, _, rfl, (show (4 : Nat) ≤ sizeLine by decide), fun q hq => ?_⟩
    obtain ⟨x1, H4, x2, x3⟩ := new (fun e z => by rw [he] at z; cases z) q hq
    exact ⟨_, rfl, p, _, rfl, x1, _, rfl, A.k, H4, rfl, x2, x3⟩
  | some e =>
    rw [he] at dg
    obtain ⟨r1, t, h1, h2⟩ := hk.ent n e he
    refine iteT ⟨_, rfl, p, _, rfl, h.g "known" _ rfl, _, rfl, A.k, _, rfl, dg, ea n, _, _, _, rfl, rfl, SqL.of h1, rfl, t, _, _, _, rfl, rfl, SqT.of h2, rfl, _, rfl, tr, _, _, _, rfl, rfl, SqT.of htr, rfl, rfl, _, rfl, ?_⟩
    by_cases hb : e.r.b = rc.b
    · refine ite_tt (decide_eq_true (by rw [hb])) ?_
      refine ⟨_, rfl, _, rfl, p, _, rfl, h.g "known" _ rfl, _, rfl, A.k, _, rfl, dg, ea n, _, _, 0, rfl, rfl, h1, rfl, ?_⟩
      have hk3 := hk.setE (e' := { e with r := rc }) he htr
      have m3 := hk.mvE hk8 he (.lst (entV tr { e with r := rc }))
      have g3 := h.know' (kn := m.kn.set n (some { e with r := rc })) ⟨by rw [set_len]; exact hk8, _, _, hk3⟩ m3
      rw [know_same he hb] at k
      exact k _ _ ⟨A, g3⟩ (m3.mono sk_sm)
    · refine ite_ff (decide_eq_false fun z => hb (by injection z with z; omega)) ?_
      refine ⟨_, rfl, _, rfl, _, rfl, (show (4 : Nat) ≤ sizeLine by decide), fun q hq => ?_⟩
      obtain ⟨x1, H4, x2, x3⟩ := new (fun e' z => by rw [he] at z; cases z; exact hb) q hq
      exact ⟨_, rfl, p, _, rfl, x1, _, rfl, A.k, H4, rfl, x2, x3⟩
end
end Kb
set_option Elab.async false
set_option linter.all false
set_option maxRecDepth 100000
set_option maxHeartbeats 4000000
namespace Kb
open PySem PySem.Spec PyProof.Rows L2
section
variable {P : Program} {w : World} {K : PySem.W.Frag} {mg : Str → Option Value} {base : Heap}
def sp_Lclean : Sp := Sp2 fun a b H Q => ∃ (c : Cfg) (ρ : Ro) (p : Addr) (m : Mem) (D : Ds) (on : Bool) (s : Nat) (e : Ent), a = .ref p ∧ b = .int (s : Int) ∧ ModAt c ρ H p m D on ∧ OkC c ∧ Kn.at m.kn s = some e ∧
  ∀ (ρ' : Ro) (H' : Hp) (q : Addr) (ys : List V), ModAt c ρ' H' p (clean c m s).1 D on → Mv SM ρ H ρ' H' → H' q = some (.lst ys) → ρ' q = 0 → All cS H' (clean c m s).2 ys → Q (.ref q) H'
theorem sc_L_clean : FnScope ["_law_m", "_law_slot_here", "_law_record", "_law_steps", "_law_after", "_law_word_here"] ["_law_m", "_law_slot_here"] (defScope s_L_clean) := ⟨rfl, rfl, rfl, by decide +kernel, rfl, by decide +kernel, by decide +kernel⟩
theorem c_L_clean (T : Txt K mg) : C8.Cal P w K mg base 1 "_law_clean" (sp_Lclean) [] := by
  refine cal_of T.F_L_clean T.g_Lclean sc_L_clean len2 (fun _ _ _ _ _ _ us hl => match us, hl with | [_, _], _ => rfl) (fun cdv A outer s H vs Q E hr h => ?_)
  obtain ⟨a, b, rfl, c, ρ, p, m, D, on, s, e, rfl, rfl, ⟨A, h⟩, ok, he, k⟩ := h
  rw [clean_at he] at k
  obtain ⟨hk8, ea, L, hk⟩ := h.kn
  obtain ⟨vso, hvo, hrc⟩ := h.ord
  obtain ⟨tc, hvc, htc⟩ := hrc.at (i := 3) (by decide)
  obtain ⟨rr, t, he1, he2⟩ := hk.ent s e he
  have dg := hk.dget (s := s)
  rw [he] at dg
  refine ⟨_, pss_cons (ps_par (i := 2) (j := 3) (by rfl) sc_L_clean.nd rfl rfl (by decide) rfl rfl (pa_cons (pe_ix (r := rIxL K) ix_list (pe_dget (hu_of hr) (pe_dget (hu_of hr) (pv 0) (pe_str) (fun _ _ => rfl)) (pv 1) (fun _ _ => rfl)) (pe_int) (fun _ _ => rfl)) (pa_cons (pe_lst (pa_nil)) pa_nil)) (by rfl))
      (pss_cons (ps_set (i := 4) sc_L_clean.nd rfl (.inl rfl) (pe_op op_catT (pe_slice sl_tup (pv 2) (po_none) (po_some (pe_int))) (pe_tup (pa_cons (pe_bl) pa_nil))))
      (pss_cons (ps_for PassesOwn.never rfl (pi_tup (pe_ix (r := rIxL K) ix_list (pe_dget (hu_of hr) (pv 0) (pe_str) (fun _ _ => rfl)) (pe_int) (fun _ _ => rfl))) (pg_name (i := 5) sc_L_clean.nd rfl (.inl rfl)) (pss_one (ps_if (pt_cmpR op_eq (pv 5) (pe_str) (nomark _)) (pss_one (ps_expr (pe_bm PySem.F.plainAttrs_list PySem.F.slot_list_append PySem.F.type_list_append mt_append (pv 3) (pa_cons (pe_tup (pa_cons (pe_str) (pa_cons (pe_ix (r := rIxT K) ix_tup (pv 2) (pe_int) (fun _ _ => rfl)) (pa_cons (pe_ix (r := rIxT K) ix_tup (pv 2) (pe_int) (fun _ _ => rfl)) pa_nil)))) pa_nil)))) (pss_one (ps_if (pt_cmpR op_eq (pv 5) (pe_str) (nomark _)) (pss_one (ps_expr (pe_bm PySem.F.plainAttrs_list PySem.F.slot_list_append PySem.F.type_list_append mt_append (pv 3) (pa_cons (pe_tup (pa_cons (pe_str) (pa_cons (pv 1) (pa_cons (pv 4) pa_nil)))) pa_nil)))) (pss_one (ps_expr (pe_bm PySem.F.plainAttrs_list PySem.F.slot_list_append PySem.F.type_list_append mt_append (pv 3) (pa_cons (pe_tup (pa_cons (pv 5) pa_nil)) pa_nil)))))))))
      (pss_cons (ps_asg (pv 4) (pg_sub (pe_dget (hu_of hr) (pe_dget (hu_of hr) (pv 0) (pe_str) (fun _ _ => rfl)) (pv 1) (fun _ _ => rfl)) (pe_int) set_list))
      (pss_one (ps_ret (pv 3)))))), ?_⟩
  refine ⟨_, rfl, p, _, rfl, h.g "known" _ rfl, _, rfl, A.k, _, rfl, dg, ea s, _, _, _, rfl, rfl, SqL.of he1, rfl, (show (0 : Nat) ≤ sizeLine by decide), fun R hR => ⟨_, _, rfl, ?_⟩⟩
  have m0 : Mv S0 ρ H _ _ := Mv.refl.new hR 0 (.lst [])
  have hR0 : upd H R (.lst []) R = some (.lst []) := upd_same
  have rR0 : rs ρ R 0 R = 0 := rs_same
  generalize upd H R (.lst []) = H0 at *
  generalize rs ρ R 0 = ρ0 at *
  have he20 := m0.tups _ _ he2
  refine ⟨_, rfl, _, rfl, t, recV e.r, rfl, SqT.of he20, by show ¬ ((0 : Nat) = 0 ∧ (3 : Nat) = 4); omega, fun p1 hp1 => ⟨(show (1 : Nat) ≤ sizeLine by decide), fun p2 hp2 => ?_⟩⟩
  have g1 : upd H0 p1 (.tup (cutV (recV e.r) none (some 3))) p1 = some (.tup [.int e.r.b, .int e.r.v, .int e.r.t]) := upd_same
  refine ⟨p1, p2, _, _, rfl, rfl, SqT.of ((upd_ne (ne_of_none g1 hp2)).trans g1), SqT.of upd_same, by simp, (show (4 : Nat) ≤ sizeLine by decide), fun z => absurd z (by simp), fun _ p3 hp3 => ?_⟩
  have m1 : Mv S0 ρ H _ _ := ((m0.new hp1 0 (.tup [.int e.r.b, .int e.r.v, .int e.r.t])).new hp2 0 (.tup [.bl false])).new hp3 0 (.tup (recV { e.r with d := false }))
  have w1 : Mv S0 ρ0 H0 _ _ := ((Mv.refl.new hp1 0 (.tup [.int e.r.b, .int e.r.v, .int e.r.t])).new hp2 0 (.tup [.bl false])).new hp3 0 (.tup (recV { e.r with d := false }))
  have hR1 := w1.at0 hR0
  have rR1 := w1.ro hR0 rR0
  have g3 : upd (upd (upd H0 p1 (.tup [.int e.r.b, .int e.r.v, .int e.r.t])) p2 (.tup [.bl false])) p3 (.tup (recV { e.r with d := false })) p3 = some (.tup (recV { e.r with d := false })) := upd_same
  have h1 := h.mv0 m1
  refine ⟨_, rfl, p, _, rfl, h1.g "recipes" _ rfl, A.o, _, _, _, rfl, rfl, SqL.of (m1.at0 hvo), atI_nat (j := 3) hvc, tc, rfl, ⟨_, SqT.of (m1.tups _ _ htc)⟩, ?_⟩
  refine for_it (walk_tup (xs := wdV c.cl)) (fun i σ H' => ∃ x ρ' ys, σ = [some (.ref p), some (.int (s : Int)), some (.ref t), some (.ref R), some (.ref p3), x] ∧ Mv S0 ρ H ρ' H' ∧ H' R = some (.lst ys) ∧ ρ' R = 0 ∧ H' p3 = some (.tup (recV { e.r with d := false })) ∧ All cS H' ((c.cl.take i).map (cleanStp s e.r)) ys)
    ⟨_, _, [], rfl, m1, hR1, rR1, g3, .nil⟩ (fun i σ H' _ ⟨_, _, _, _, mm, _⟩ => SqT.of (mm.tups _ _ htc)) (fun i x σ Hz H2 hi ⟨x0, ρ2, ys, e0, m2, hR2, rR2, g2, ha⟩ y => ?_) (fun σ H2 ⟨x0, ρ2, ys, e0, m2, hR2, rR2, g2, ha⟩ => ?_)
  · obtain ⟨rfl, hx⟩ := y
    subst e0
    obtain ⟨wd, hwd, rfl⟩ := wdV_at hx
    have hil := (List.getElem?_eq_some_iff.mp hwd).1
    have hok := ok.o4.ok wd (List.mem_of_getElem? hwd)
    have hl8 := ok.o4.len
    have hyl := ha.len
    rw [List.length_map, List.length_take] at hyl
    have ht2 := m2.tups _ _ he2
    have fin : ∀ (q : Addr) (zs : List V), H2 q = none → stepAt (upd H2 q (.tup zs)) q (cleanStp s e.r wd) → upd H2 q (.tup zs) R = some (.lst ys) ∧ ys.length < sizeLine ∧ ∃ (ρ' : Ro) (ys' : List V), Mv S0 ρ H ρ' (upd (upd H2 q (.tup zs)) R (.lst (ys ++ [.ref q]))) ∧ upd (upd H2 q (.tup zs)) R (.lst (ys ++ [.ref q])) R = some (.lst ys') ∧ ρ' R = 0 ∧ upd (upd H2 q (.tup zs)) R (.lst (ys ++ [.ref q])) p3 = some (.tup (recV { e.r with d := false })) ∧ All cS (upd (upd H2 q (.tup zs)) R (.lst (ys ++ [.ref q]))) ((c.cl.take (i + 1)).map (cleanStp s e.r)) ys' := fun q zs hq hst => by
      have nR : R ≠ q := ne_of_none hR2 hq
      have m3 := m2.new hq 0 (.tup zs)
      have hR3 := (upd_ne (o := .tup zs) nR).trans hR2
      have m4 := m3.wr hR3 (fun xs z => by cases z) (.inl hR) (.lst (ys ++ [.ref q]))
      have k0 : ∀ b zs', H2 b = some (.tup zs') → upd H2 q (.tup zs) b = some (.tup zs') := fun b zs' z => (upd_ne (ne_of_none z hq)).trans z
      have k1 : ∀ b zs', upd H2 q (.tup zs) b = some (.tup zs') → upd (upd H2 q (.tup zs)) R (.lst (ys ++ [.ref q])) b = some (.tup zs') := fun b zs' z => (upd_ne (ne_of z hR3 (by intro y; cases y))).trans z
      refine ⟨hR3, Nat.lt_of_le_of_lt (show ys.length ≤ 8 by omega) (by decide), _, _, m4, upd_same, (rs_ne nR).trans rR2, k1 _ _ (k0 _ _ g2), ?_⟩
      rw [take_map hwd]
      exact All.snoc (c := cS) (cS.mono k1 ⟨q, rfl, hst⟩) ((ha.mono k0).mono k1)
    cases wd with
    | slow =>
      refine ⟨_, rfl, rfl, _, rfl, ite_tt (by decide +kernel) ?_⟩
      refine ⟨_, rfl, .inl ⟨rfl, _, SqL.of hR2⟩, _, rfl, t, _, _, _, rfl, rfl, SqT.of ht2, rfl, _, rfl, t, _, _, _, rfl, rfl, SqT.of ht2, rfl, (show (3 : Nat) ≤ sizeLine by decide), fun q hq => ?_⟩
      obtain ⟨z1, z2, ρ', ys', z3⟩ := fin q _ hq upd_same
      exact ⟨_, _, _, rfl, rfl, z1, z2, _, ρ', ys', rfl, z3⟩
    | mark =>
      refine ⟨_, rfl, rfl, _, rfl, ite_ff (by decide +kernel) ⟨_, rfl, rfl, _, rfl, ite_tt (by decide +kernel) ?_⟩⟩
      refine ⟨_, rfl, .inl ⟨rfl, _, SqL.of hR2⟩, _, rfl, _, rfl, (show (3 : Nat) ≤ sizeLine by decide), fun q hq => ?_⟩
      obtain ⟨z1, z2, ρ', ys', z3⟩ := fin q [.str "fast", .int (s : Int), .ref p3] hq ⟨.ref p3, upd_same, p3, rfl, (upd_ne (ne_of_none g2 hq)).trans g2⟩
      exact ⟨_, _, _, rfl, rfl, z1, z2, _, ρ', ys', rfl, z3⟩
    | sslow =>
      refine ⟨_, rfl, rfl, _, rfl, ite_ff (by decide +kernel) ⟨_, rfl, rfl, _, rfl, ite_ff (by decide +kernel) ?_⟩⟩
      refine ⟨_, rfl, .inl ⟨rfl, _, SqL.of hR2⟩, _, rfl, (show (1 : Nat) ≤ sizeLine by decide), fun q hq => ?_⟩
      obtain ⟨z1, z2, ρ', ys', z3⟩ := fin q _ hq upd_same
      exact ⟨_, _, _, rfl, rfl, z1, z2, _, ρ', ys', rfl, z3⟩
    | sfast =>
      refine ⟨_, rfl, rfl, _, rfl, ite_ff (by decide +kernel) ⟨_, rfl, rfl, _, rfl, ite_ff (by decide +kernel) ?_⟩⟩
      refine ⟨_, rfl, .inl ⟨rfl, _, SqL.of hR2⟩, _, rfl, (show (1 : Nat) ≤ sizeLine by decide), fun q hq => ?_⟩
      obtain ⟨z1, z2, ρ', ys', z3⟩ := fin q _ hq upd_same
      exact ⟨_, _, _, rfl, rfl, z1, z2, _, ρ', ys', rfl, z3⟩
    | fast => exact absurd hok (by decide)
    | free => exact absurd hok (by decide)
    | done => exact absurd hok (by decide)
  · subst e0
    have e2 : c.cl.take (wdV c.cl).length = c.cl := by
      rw [wdV_len, List.take_length]
    rw [e2] at ha
    have h2 := h.mv0 m2
    obtain ⟨_, ea2, L2, hk2⟩ := h2.kn
    obtain ⟨rr2, t2, he3, he4⟩ := hk2.ent s e he
    have dg2 := hk2.dget (s := s)
    rw [he] at dg2
    refine ⟨_, rfl, _, rfl, p, _, rfl, h2.g "known" _ rfl, _, rfl, A.k, _, rfl, dg2, ea2 s, _, _, 0, rfl, rfl, he3, rfl, ?_⟩
    have hk3 := hk2.setE (e' := { e with r := { e.r with d := false } }) he g2
    have m3 := hk2.mvE hk8 he (.lst (entV p3 { e with r := { e.r with d := false } }))
    have g3 := h2.know' (kn := m.kn.set s (some { e with r := { e.r with d := false } })) ⟨by rw [set_len]; exact hk8, _, _, hk3⟩ m3
    exact ⟨_, rfl, k _ _ R ys ⟨A, g3⟩ ((m2.mono s0_sp).trans (m3.mono sk_sm)) (m3.keeps hR2 rR2 (skN (by decide))) rR2 (ha.mono m3.tups)⟩
end
end Kb
set_option Elab.async false
set_option linter.all false
set_option maxRecDepth 100000
set_option maxHeartbeats 4000000
namespace Kb
open PySem PySem.Spec PyProof.Rows L2
def fFree (kn : Kn) (i : Nat) : Option Nat := if (Kn.at kn i).isNone = true then some i else none
theorem frees_fm (kn : Kn) : (List.range kn.length).filterMap (fFree kn) = frees kn := by
  unfold frees
  rw [← List.filterMap_eq_filter]
  refine fm_congr fun s _ => ?_
  unfold fFree
  cases q : Kn.at kn s with
  | none => simp [Option.guard, q]
  | some e => simp [Option.guard, q]
def fClear (kn : Kn) (i : Nat) : Option Nat := match Kn.at kn i with
  | some e => if (!e.r.d) = true then some i else none
  | none => none
theorem clears_fm (kn : Kn) : (List.range kn.length).filterMap (fClear kn) = clears kn := by
  unfold clears
  rw [← List.filterMap_eq_filter]
  refine fm_congr fun s _ => ?_
  unfold fClear
  cases q : Kn.at kn s with
  | none => simp [Option.guard, q]
  | some e =>
    cases h : e.r.d with
    | true => simp [Option.guard, q, h]
    | false => simp [Option.guard, q, h]
theorem frees_all {kn : Kn} (h : frees kn = []) : ∀ j, j < kn.length → ∃ e, Kn.at kn j = some e := fun j hj => by
  cases q : Kn.at kn j with
  | some e => exact ⟨e, rfl⟩
  | none =>
    have z : j ∈ frees kn := List.mem_filter.mpr ⟨List.mem_range.mpr hj, by rw [q]; rfl⟩
    rw [h] at z
    cases z
section
variable {P : Program} {w : World} {K : PySem.W.Frag} {mg : Str → Option Value} {base : Heap}
def sp_Ltake : Sp := Sp1 fun a H Q => ∃ (c : Cfg) (ρ : Ro) (p : Addr) (m : Mem) (D : Ds) (on : Bool), a = .ref p ∧ ModAt c ρ H p m D on ∧ OkC c ∧ 1 ≤ m.kn.length ∧ D.fast.sh.length = m.kn.length ∧
  ∀ (ρ' : Ro) (H' : Hp) (t q : Addr) (ys : List V), ModAt c ρ' H' p (take c m).2.1 D on → Mv SM ρ H ρ' H' → H' t = some (.tup [.int ((take c m).1 : Nat), .ref q]) → H' q = some (.lst ys) → ρ' q = 0 → All cS H' (take c m).2.2 ys → Q (.ref t) H'
theorem sc_L_take : FnScope ["_law_m", "_law_size", "_law_steps", "_law_slot_here", "_law_free", "_law_clean_here", "_law_rows", "_law_record", "_law_came", "_law_used", "_law_uses"] ["_law_m"] (defScope s_L_take) := ⟨rfl, rfl, rfl, by decide +kernel, rfl, by decide +kernel, by decide +kernel⟩
theorem c_L_take (T : Txt K mg) : C8.Cal P w K mg base 2 "_law_take" (sp_Ltake) [] := by
  refine cal_of T.F_L_take T.g_Ltake sc_L_take len1 (fun _ _ _ _ _ _ us hl => match us, hl with | [_], _ => rfl) (fun cdv A outer s H vs Q E hr h => ?_)
  obtain ⟨a, rfl, c, ρ, p, m, D, on, rfl, ⟨A, h⟩, ok, h1, hfl, k⟩ := h
  have hk8 := h.kn.1
  obtain ⟨Lf, hf, rf, hfk⟩ := h.fast
  obtain ⟨vs, hv1, q1⟩ := hfk.sh
  have hl : m.kn.length = vs.length := hfl.symm.trans q1.len
  refine ⟨_, pss_cons (ps_par (i := 1) (j := 2) (by rfl) sc_L_take.nd rfl rfl (by decide) rfl rfl (pa_cons (pe_callB call_len_seq (by rfl) T.f_len (by decide +kernel) (pa_cons (pe_ix (r := rIxL K) ix_list (pe_dget (hu_of hr) (pv 0) (pe_str) (fun _ _ => rfl)) (pe_int) (fun _ _ => rfl)) pa_nil)) (pa_cons (pe_lst (pa_nil)) pa_nil)) (by rfl))
      (pss_cons (ps_setLc (i := 4) (own := [("_law_slot_here", 3)]) (by rfl) sc_L_take.nd rfl rfl (sw_true rfl rfl rfl (by decide +kernel)) (g := gName 3) (pi_range1 rfl T.f_range (pa_cons (pv 1) pa_nil)) (blkOk_by (own := [("_law_slot_here", 3)]) (N := ["_law_m", "_law_size", "_law_steps", "_law_slot_here", "_law_free", "_law_clean_here", "_law_rows", "_law_record", "_law_came", "_law_used", "_law_uses"]) (sc := defScope s_L_take) (by decide +kernel)) (fun _ _ _ _ _ => pg_name (i := 3) sc_L_take.nd rfl (.inl rfl) (.inr rfl)) (fun _ _ _ _ _ => pts_one (pt_cmp (pc_dnotin (hu_of hr) (pv 3) (pe_dget (hu_of hr) (pv 0) (pe_str) (fun _ _ => rfl))))) (fun _ _ _ _ _ => pv 3))
      (pss_cons (ps_if (pt_cmpR (op_neD hr.units) (pv 4) (pe_lst (pa_nil)) (nomark _)) (pss_one (ps_ret (pe_tup (pa_cons (pe_ix (r := rIxL K) ix_list (pv 4) (pe_int) (fun _ _ => rfl)) (pa_cons (pe_lst (pa_nil)) pa_nil))))) (pss_nil))
      (pss_cons (ps_setLc (i := 5) (own := [("_law_slot_here", 3)]) (by rfl) sc_L_take.nd rfl rfl (sw_true rfl rfl rfl (by decide +kernel)) (g := gName 3) (pi_range1 rfl T.f_range (pa_cons (pv 1) pa_nil)) (blkOk_by (own := [("_law_slot_here", 3)]) (N := ["_law_m", "_law_size", "_law_steps", "_law_slot_here", "_law_free", "_law_clean_here", "_law_rows", "_law_record", "_law_came", "_law_used", "_law_uses"]) (sc := defScope s_L_take) (by decide +kernel)) (fun _ _ _ _ _ => pg_name (i := 3) sc_L_take.nd rfl (.inl rfl) (.inr rfl)) (fun _ _ _ _ _ => pts_one (pt_not (pt_val (pe_ix (r := rIxT K) ix_tup (pe_ix (r := rIxL K) ix_list (pe_dget (hu_of hr) (pe_dget (hu_of hr) (pv 0) (pe_str) (fun _ _ => rfl)) (pv 3) (fun _ _ => rfl)) (pe_int) (fun _ _ => rfl)) (pe_int) (fun _ _ => rfl))))) (fun _ _ _ _ _ => pv 3))
      (pss_cut (ps_if (pt_cmpR (op_eqD hr.units) (pv 5) (pe_lst (pa_nil)) (nomark _)) (pss_cons (ps_set (i := 5) sc_L_take.nd rfl (.inl rfl) (pe_slice sl_list (C8.pe_c (c_L_oldest T) hr (by decide) rfl (pa_cons (pv 0) pa_nil)) (po_none) (po_some (pe_int))))
      (pss_one (ps_set (i := 2) sc_L_take.nd rfl (.inl rfl) (C8.pe_c (c_L_clean T) hr (by decide) rfl (pa_cons (pv 0) (pa_cons (pe_ix (r := rIxL K) ix_list (pv 5) (pe_int) (fun _ _ => rfl)) pa_nil)))))) (pss_nil))
      (pss_cons (ps_set (i := 6) sc_L_take.nd rfl (.inl rfl) (pe_lst (pa_nil)))
      (pss_cons (ps_for PassesOwn.never rfl (pi_list (pv 5)) (pg_name (i := 3) sc_L_take.nd rfl (.inl rfl)) (pss_cons (ps_asg (pe_dget (hu_of hr) (pe_dget (hu_of hr) (pv 0) (pe_str) (fun _ _ => rfl)) (pv 3) (fun _ _ => rfl)) (pg_unl (n := 4) rfl (pgs_cons (pg_name (i := 7) sc_L_take.nd rfl (.inl rfl)) (pgs_cons (pg_name (i := 8) sc_L_take.nd rfl (.inl rfl)) (pgs_cons (pg_name (i := 9) sc_L_take.nd rfl (.inl rfl)) (pgs_cons (pg_name (i := 10) sc_L_take.nd rfl (.inl rfl)) pgs_nil))))))
      (pss_one (ps_expr (pe_bm PySem.F.plainAttrs_list PySem.F.slot_list_append PySem.F.type_list_append mt_append (pv 6) (pa_cons (pe_dget (hu_of hr) (pe_disp (pps_cons (pe_str) (pe_tup (pa_cons (pv 8) (pa_cons (pv 3) pa_nil))) (pps_cons (pe_str) (pe_tup (pa_cons (pv 9) (pa_cons (pv 3) pa_nil))) (pps_cons (pe_str) (pe_tup (pa_cons (pv 10) (pa_cons (pv 9) (pa_cons (pv 3) pa_nil)))) (pps_nil)))) (by rfl) (by rfl) (by intro z; cases z) (by decide)) (pe_ix (r := rIxT K) ix_tup (pe_dget (hu_of hr) (pv 0) (pe_str) (fun _ _ => rfl)) (pe_int) (fun _ _ => rfl)) (fun _ _ => rfl)) pa_nil))))))
      (pss_cons (ps_expr (pe_dpop1 (pe_dget (hu_of hr) (pv 0) (pe_str) (fun _ _ => rfl)) (pe_ix (r := rIxT K) ix_tup (pe_callB (cr_minT rfl hr.units) (by rfl) T.f_min (by decide +kernel) (pa_cons (pv 6) pa_nil)) (pe_un un_neg (pe_int)) (fun _ _ => rfl)) ⟨rfl, rfl, rfl, rfl⟩))
      (pss_one (ps_ret (pe_tup (pa_cons (pe_ix (r := rIxT K) ix_tup (pe_callB (cr_minT rfl hr.units) (by rfl) T.f_min (by decide +kernel) (pa_cons (pv 6) pa_nil)) (pe_un un_neg (pe_int)) (fun _ _ => rfl)) (pa_cons (pv 2) pa_nil)))))))))))), ?_⟩
  refine ⟨_, rfl, p, _, rfl, h.g "fast" _ rfl, A.f, _, _, _, rfl, rfl, SqL.of hf, rfl, _, _, rfl, .inl (SqL.of hv1), (show (0 : Nat) ≤ sizeLine by decide), fun qs hqs => ⟨_, _, rfl, ?_⟩⟩
  have m0 : Mv S0 ρ H _ _ := Mv.refl.new hqs 0 (.lst [])
  have hqs0 : upd H qs (.lst []) qs = some (.lst []) := upd_same
  have rqs0 : rs ρ qs 0 qs = 0 := rs_same
  have g0 := h.mv0 m0
  generalize upd H qs (.lst []) = H0 at *
  generalize rs ρ qs 0 = ρ0 at *
  refine ⟨_, rfl, _, rfl, by omega, by omega, fun D1 hD1 => ?_⟩
  refine lc_gen (ρ := ρ0) (walk_range0 (n := vs.length)) (by omega) cN (fun i => fFree m.kn i) (fun ρ' H' m => trivial) (fun i x ρ1 Hz H1 hi m1 y Ny Nn hNy hNn => ?_) hD1 fun ρ1 H1 ys m1 r0 hy ha => ?_
  · obtain ⟨rfl, rfl⟩ := y
    have g1 := g0.mv0 m1
    obtain ⟨_, ea, L, hk⟩ := g1.kn
    have dg := hk.dget (s := i)
    refine ⟨rfl, _, rfl, _, rfl, p, _, rfl, g1.g "known" _ rfl, A.k, _, rfl, dg, _, rfl, ?_⟩
    cases he : Kn.at m.kn i with
    | none => exact iteT ⟨_, rfl, hNy _ _ _ i (by unfold fFree; rw [he]; rfl) rfl Mv.refl⟩
    | some e => exact iteF (hNn _ _ (by unfold fFree; rw [he]; rfl) Mv.refl)
  rw [← hl, frees_fm] at ha
  rw [nats_of ha] at hy
  have m01 := m0.trans m1
  have g1 := g0.mv0 m1
  have hqs1 := m1.at0 hqs0
  have rqs1 := m1.ro hqs0 rqs0
  refine ⟨_, rfl, (show (0 : Nat) ≤ sizeLine by decide), fun b hb => ?_⟩
  have m2 := m01.new hb 0 (.lst [])
  have g2 := g1.mv0 (Mv.refl.new hb 0 (.lst []))
  have hyb := (upd_ne (o := .lst []) (ne_of_none hy hb)).trans hy
  have hqs2 := (upd_ne (o := .lst []) (ne_of_none hqs1 hb)).trans hqs1
  have rqs2 : rs ρ1 b 0 qs = 0 := (rs_ne (ne_of_none hqs1 hb)).trans rqs1
  have hyb' := hyb
  rw [natV_eq] at hyb
  refine ne_nil hyb upd_same ⟨_, rfl, ?_⟩
  generalize upd H1 b (.lst []) = H2 at *
  generalize rs ρ1 b 0 = ρ2 at *
  cases hfr : frees m.kn with
  | cons s r =>
    rw [hfr] at hyb'
    rw [take_free hfr] at k
    refine iteT ⟨_, rfl, D1, _, _, _, rfl, rfl, SqL.of hyb', atI_nat (j := 0) rfl, (show (0 : Nat) ≤ sizeLine by decide), fun q5 hq5 => ⟨(show (2 : Nat) ≤ sizeLine by decide), fun t ht => ?_⟩⟩
    have m5 := m2.new hq5 0 (.lst [])
    have e5 : upd H2 q5 (.lst []) q5 = some (.lst []) := upd_same
    have w5 : Mv S0 ρ2 H2 _ _ := (Mv.refl.new hq5 0 (.lst [])).new ht 0 (.tup [.int (s : Int), .ref q5])
    exact k _ _ t q5 [] ⟨A, g2.mv0 w5⟩ ((m2.trans w5).mono s0_sp) upd_same ((upd_ne (ne_of_none e5 ht)).trans e5) ((rs_ne (ne_of_none e5 ht)).trans rs_same) .nil
  | nil =>
    have hall := frees_all hfr
    refine iteF ⟨_, rfl, _, rfl, by omega, by omega, fun D3 hD3 => ?_⟩
    refine lc_gen (ρ := ρ2) (walk_range0 (n := vs.length)) (by omega) cN (fun i => fClear m.kn i) (fun ρ' H' m => trivial) (fun i x ρ3 Hz H3 hi m3 y Ny Nn hNy hNn => ?_) hD3 fun ρ3 H3 ys3 m3 r3 hy3 ha3 => ?_
    · obtain ⟨rfl, rfl⟩ := y
      have g3 := g2.mv0 m3
      obtain ⟨_, ea, L, hk⟩ := g3.kn
      obtain ⟨e, he⟩ := hall i (by omega)
      have dg := hk.dget (s := i)
      rw [he] at dg
      obtain ⟨rr, t, he1, he2⟩ := hk.ent i e he
      refine ⟨rfl, _, rfl, p, _, rfl, g3.g "known" _ rfl, _, rfl, A.k, _, rfl, dg, ea i, _, _, _, rfl, rfl, SqL.of he1, rfl, t, _, _, _, rfl, rfl, SqT.of he2, rfl, _, rfl, ?_⟩
      rcases Bool.eq_false_or_eq_true e.r.d with hd | hd
      · exact ite_not hd (hNn _ _ (by unfold fClear; rw [he]; show (if (!e.r.d) = true then some i else none) = none; rw [hd]; rfl) Mv.refl)
      · exact ite_tt (by rw [hd]; rfl) ⟨_, rfl, hNy _ _ _ i (by unfold fClear; rw [he]; show (if (!e.r.d) = true then some i else none) = some i; rw [hd]; rfl) rfl Mv.refl⟩
    rw [← hl, clears_fm] at ha3
    rw [nats_of ha3] at hy3
    have g3 := g2.mv0 m3
    have m03 := m2.trans m3
    have hqs3 := m3.at0 hqs2
    have rqs3 := m3.ro hqs2 rqs2
    refine ⟨fun σ' H' => ∃ (ρ' : Ro) (mX : Mem) (ls : List Nat) (lq q : Addr) (ys : List V) (x3 x4 x6 x7 x8 x9 x10 : Option V), σ' = [some (.ref p), some (.int ((vs.length : Nat) : Int)), some (.ref q), x3, x4, some (.ref lq), x6, x7, x8, x9, x10] ∧ ModAt c ρ' H' p mX D on ∧ Mv SM ρ H ρ' H' ∧ H' lq = some (.lst (natV ls)) ∧ ρ' lq = 0 ∧ ls ≠ [] ∧ ls.length ≤ 8 ∧ (∀ s ∈ ls, ∃ e, Kn.at mX.kn s = some e) ∧ H' q = some (.lst ys) ∧ ρ' q = 0 ∧ All cS H' (take c m).2.2 ys ∧ (take c m).1 = pick (rowAt c.cho mX.kn) ls ∧ (take c m).2.1 = drop mX (pick (rowAt c.cho mX.kn) ls), ?_, ?_⟩
    · refine ⟨_, rfl, (show (0 : Nat) ≤ sizeLine by decide), fun b hb => ?_⟩
      have m4 := m03.new hb 0 (.lst [])
      have g4 := g3.mv0 (Mv.refl.new hb 0 (.lst []))
      have hy4 := (upd_ne (o := .lst []) (ne_of_none hy3 hb)).trans hy3
      have r4 : rs ρ3 b 0 D3 = 0 := (rs_ne (ne_of_none hy3 hb)).trans r3
      have hqs4 := (upd_ne (o := .lst []) (ne_of_none hqs3 hb)).trans hqs3
      have rqs4 : rs ρ3 b 0 qs = 0 := (rs_ne (ne_of_none hqs3 hb)).trans rqs3
      have hy4' := hy4
      rw [natV_eq] at hy4
      refine eq_nil hy4 upd_same ⟨_, rfl, ?_⟩
      generalize upd H3 b (.lst []) = H4 at *
      generalize rs ρ3 b 0 = ρ4 at *
      cases hcl : clears m.kn with
      | nil =>
        obtain ⟨pr, rest, hold⟩ := oldest_ne hcl hall h1
        obtain ⟨e, he, hde, hte⟩ := oldest_in (kn := m.kn) (q := pr) (by rw [hold]; exact List.mem_cons_self)
        refine iteT ⟨_, rfl, _, rfl, c, ρ4, p, m, D, on, rfl, ⟨A, g4⟩, fun ρ5 H5 q5 m5 r5 hq5 => ⟨_, rfl, q5, _, rfl, SqL.of hq5, fun p6 hp6 => ?_⟩⟩
        generalize hz : cutV _ none _ = zs
        have ez : zs = natV [pr.2] := hz.symm.trans ((cut_to _ 1).trans (by rw [hold]; rfl))
        subst ez
        clear hz
        have g6 := (g4.mv0 m5).mv0 (Mv.refl.new hp6 0 (.lst (natV [pr.2])))
        have m6 := (m4.trans m5).new hp6 0 (.lst (natV [pr.2]))
        have h6 : upd H5 p6 (.lst (natV [pr.2])) p6 = some (.lst (natV [pr.2])) := upd_same
        have r6 : rs ρ5 p6 0 p6 = 0 := rs_same
        refine ⟨_, rfl, _, rfl, p6, _, _, _, rfl, rfl, SqL.of h6, rfl, _, _, rfl, c, _, p, m, D, on, pr.2, e, rfl, rfl, ⟨A, g6⟩, ok, he, fun ρ7 H7 q7 ys7 g7 m7 hq7 r7 ha7 => ?_⟩
        refine ⟨ρ7, (clean c m pr.2).1, [pr.2], p6, q7, ys7, _, _, _, _, _, _, _, rfl, g7, (m6.mono s0_sp).trans m7, m7.keeps h6 r6 sm0, m7.ro h6 r6, by simp, by simp, fun s hs => ?_, hq7, r7, ?_, ?_, ?_⟩
        · rw [List.mem_singleton.mp hs, clean_at he]
          exact ⟨_, by rw [at_set (at_lt he), if_pos rfl]⟩
        · rw [take_dirty hfr hcl hold]
          exact ha7
        · rw [take_dirty hfr hcl hold]
          rfl
        · rw [take_dirty hfr hcl hold]
          rfl
      | cons s0 r0' =>
        refine iteF ⟨ρ4, m, clears m.kn, D3, qs, [], _, _, _, _, _, _, _, rfl, ⟨A, g4⟩, m4.mono s0_sp, hy4', r4, by rw [hcl]; simp, ?_, fun s hs => let ⟨e, he, _⟩ := clears_in hs; ⟨e, he⟩, hqs4, rqs4, ?_, ?_, ?_⟩
        · have z := List.length_filter_le (fun s => match Kn.at m.kn s with | some e => !e.r.d | none => false) (List.range m.kn.length)
          rw [List.length_range] at z
          exact Nat.le_trans z hk8
        · rw [take_clear hfr hcl]
          exact .nil
        · rw [take_clear hfr hcl]
        · rw [take_clear hfr hcl]
    · rintro σ5 H5 ⟨ρ5, mX, ls, lq, q, ys5, x3, x4, x6, x7, x8, x9, x10, rfl, ⟨A5, g5⟩, m5, hlq, rlq, hne, hl8, hkn, hq, rq, ha5, e1, e2⟩
      rw [e1, e2] at k
      refine ⟨(show (0 : Nat) ≤ sizeLine by decide), fun R hR => ?_⟩
      have mR : Mv S0 ρ5 H5 _ _ := Mv.refl.new hR 0 (.lst [])
      refine ⟨_, rfl, lq, rfl, ⟨_, SqL.of (mR.at0 hlq)⟩, ?_⟩
      refine for_it (walk_list (xs := natV ls)) (fun i σ H' => ∃ y3 y4 y7 y8 y9 y10 ρ' ys, σ = [some (.ref p), some (.int ((vs.length : Nat) : Int)), some (.ref q), y3, y4, some (.ref lq), some (.ref R), y7, y8, y9, y10] ∧ Mv S0 ρ5 H5 ρ' H' ∧ H' R = some (.lst ys) ∧ ρ' R = 0 ∧ All cT H' ((ls.take i).map (rowAt c.cho mX.kn)) ys)
        ⟨_, _, _, _, _, _, _, [], rfl, mR, upd_same, rs_same, .nil⟩ (fun i σ H' _ ⟨_, _, _, _, _, _, _, _, _, mm, _⟩ => SqL.of (mm.at0 hlq)) (fun i x σ Hz H6 hi ⟨y3, y4, y7, y8, y9, y10, ρ6, ys, e0, m6, hy, r0, ha⟩ y => ?_) (fun σ H6 ⟨y3, y4, y7, y8, y9, y10, ρ6, ys, e0, m6, hy, r0, ha⟩ => ?_)
      · obtain ⟨rfl, hx⟩ := y
        subst e0
        have hil : i < ls.length := by
          unfold natV at hi
          rw [List.length_map] at hi
          exact hi
        have hx2 : ls[i]? = some ls[i] := List.getElem?_eq_getElem hil
        have hxe : x = .int (ls[i] : Nat) := by
          unfold natV at hx
          rw [List.getElem?_map, hx2] at hx
          exact (Option.some.inj hx).symm
        subst hxe
        obtain ⟨e, he⟩ := hkn ls[i] (List.getElem_mem hil)
        generalize hsi : ls[i] = s at he hx2
        have g6 := g5.mv0 m6
        obtain ⟨_, ea, L, hk⟩ := g6.kn
        obtain ⟨rr, t, he1, he2⟩ := hk.ent s e he
        have dg := hk.dget (s := s)
        rw [he] at dg
        have hlt : ys.length < sizeLine := by
          have q1 := ha.len
          rw [List.length_map, List.length_take] at q1
          unfold sizeLine
          omega
        refine ⟨_, rfl, p, _, rfl, g6.g "known" _ rfl, _, rfl, A5.k, _, rfl, dg, ea s, _, rfl, SqL.of he1, rfl, _, _, rfl, _, _, rfl, _, _, rfl, _, _, rfl, rfl, ?_⟩
        refine ⟨_, rfl, .inl ⟨rfl, _, SqL.of hy⟩, fun dq hdq => ⟨_, rfl, _, rfl, (show (2 : Nat) ≤ sizeLine by decide), fun t1 ht1 => ⟨_, rfl, _, rfl, (show (2 : Nat) ≤ sizeLine by decide), fun t2 ht2 => ⟨_, rfl, _, rfl, _, rfl, (show (3 : Nat) ≤ sizeLine by decide), fun t3 ht3 => ?_⟩⟩⟩⟩
        have wA : Mv S0 ρ6 H6 (rs (rs (rs (rs ρ6 dq 0) t1 0) t2 0) t3 0) _ := (((Mv.refl.new hdq 0 (.dK [])).new ht1 0 (.tup [.int e.came, .int (s : Int)])).new ht2 0 (.tup [.int e.used, .int (s : Int)])).new ht3 0 (.tup [.int e.uses, .int e.used, .int (s : Int)])
        have wT1 : Mv S0 (rs (rs ρ6 dq 0) t1 0) (upd (upd H6 dq (.dK [])) t1 (.tup [.int e.came, .int (s : Int)])) _ _ := (Mv.refl.new ht2 0 (.tup [.int e.used, .int (s : Int)])).new ht3 0 (.tup [.int e.uses, .int e.used, .int (s : Int)])
        have wT0 : Mv S0 (rs ρ6 dq 0) (upd H6 dq (.dK [])) _ _ := ((Mv.refl.new ht1 0 (.tup [.int e.came, .int (s : Int)])).new ht2 0 (.tup [.int e.used, .int (s : Int)])).new ht3 0 (.tup [.int e.uses, .int e.used, .int (s : Int)])
        have wT2 : Mv S0 (rs (rs (rs ρ6 dq 0) t1 0) t2 0) (upd (upd (upd H6 dq (.dK [])) t1 (.tup [.int e.came, .int (s : Int)])) t2 (.tup [.int e.used, .int (s : Int)])) _ _ := Mv.refl.new ht3 0 (.tup [.int e.uses, .int e.used, .int (s : Int)])
        have f1 := wT1.tups t1 [.int e.came, .int (s : Int)] upd_same
        have f2 := wT2.tups t2 [.int e.used, .int (s : Int)] upd_same
        have f3 : upd (upd (upd (upd H6 dq (.dK [])) t1 (.tup [.int e.came, .int (s : Int)])) t2 (.tup [.int e.used, .int (s : Int)])) t3 (.tup [.int e.uses, .int e.used, .int (s : Int)]) t3 = some (.tup [.int e.uses, .int e.used, .int (s : Int)]) := upd_same
        have fq := wT0.at0 (c := dq) (o := .dK []) upd_same
        have wF := wA.wr fq (fun xs z => by cases z) (.inl hdq) (.dK [(.inr "came", .ref t1), (.inr "used", .ref t2), (.inr "rare", .ref t3)])
        generalize hHA : upd (upd (upd (upd H6 dq (.dK [])) t1 (.tup [.int e.came, .int (s : Int)])) t2 (.tup [.int e.used, .int (s : Int)])) t3 (.tup [.int e.uses, .int e.used, .int (s : Int)]) = HA at *
        refine ⟨fq, [(.inr "came", .ref t1), (.inr "used", .ref t2), (.inr "rare", .ref t3)], rfl, (show (3 : Nat) ≤ 15 by decide), ?_⟩
        have gF := g6.mv0 wF
        have tF : ∀ b zs, HA b = some (.tup zs) → upd HA dq (.dK [(.inr "came", .ref t1), (.inr "used", .ref t2), (.inr "rare", .ref t3)]) b = some (.tup zs) := fun b zs z => (upd_ne (ne_of z fq (by intro y; cases y))).trans z
        have hyF := wF.at0 hy
        have r0F := wF.ro hy r0
        have mF := m6.trans wF
        have r1 : rowAt c.cho mX.kn s = Kb.row c.cho e s := by
          unfold rowAt
          rw [he]
        have fin : ∀ (tt : Addr) (xs : List Int), upd HA dq (.dK [(.inr "came", .ref t1), (.inr "used", .ref t2), (.inr "rare", .ref t3)]) tt = some (.tup (xs.map V.int)) → rowAt c.cho mX.kn s = xs → ∃ (ρ' : Ro) (ys' : List V), Mv S0 ρ5 H5 ρ' (upd (upd HA dq (.dK [(.inr "came", .ref t1), (.inr "used", .ref t2), (.inr "rare", .ref t3)])) R (.lst (ys ++ [.ref tt]))) ∧ upd (upd HA dq (.dK [(.inr "came", .ref t1), (.inr "used", .ref t2), (.inr "rare", .ref t3)])) R (.lst (ys ++ [.ref tt])) R = some (.lst ys') ∧ ρ' R = 0 ∧ All cT (upd (upd HA dq (.dK [(.inr "came", .ref t1), (.inr "used", .ref t2), (.inr "rare", .ref t3)])) R (.lst (ys ++ [.ref tt]))) ((ls.take (i + 1)).map (rowAt c.cho mX.kn)) ys' := fun tt xs htt hxs => by
          have k1 : ∀ b zs, upd HA dq (.dK [(.inr "came", .ref t1), (.inr "used", .ref t2), (.inr "rare", .ref t3)]) b = some (.tup zs) → upd (upd HA dq (.dK [(.inr "came", .ref t1), (.inr "used", .ref t2), (.inr "rare", .ref t3)])) R (.lst (ys ++ [.ref tt])) b = some (.tup zs) := fun b zs z => (upd_ne (ne_of z hyF (by intro y; cases y))).trans z
          refine ⟨_, _, mF.wr hyF (fun xs z => by cases z) (.inl hR) _, upd_same, r0F, ?_⟩
          have ee : (ls.take (i + 1)).map (rowAt c.cho mX.kn) = (ls.take i).map (rowAt c.cho mX.kn) ++ [xs] := by
            rw [List.take_succ, hx2, List.map_append, ← hxs]
            rfl
          rw [ee]
          exact All.snoc (c := cT) ⟨tt, rfl, k1 _ _ htt⟩ ((ha.mono wF.tups).mono k1)
        refine ⟨_, rfl, p, _, rfl, gF.g "rules" _ rfl, A5.r, _, _, _, rfl, rfl, SqT.of gF.rul, rfl, dq, ?_⟩
        cases hcho : c.cho with
        | came =>
          obtain ⟨ρ', ys', z1⟩ := fin t1 [e.came, (s : Int)] (tF _ _ f1) (by rw [r1, hcho]; rfl)
          exact ⟨_, rfl, DGet.k (k := .inr "came") upd_same, _, _, _, rfl, rfl, hyF, hlt, _, _, _, _, _, _, ρ', ys', rfl, by rw [← hcho]; exact z1⟩
        | used =>
          obtain ⟨ρ', ys', z1⟩ := fin t2 [e.used, (s : Int)] (tF _ _ f2) (by rw [r1, hcho]; rfl)
          exact ⟨_, rfl, DGet.k (k := .inr "used") upd_same, _, _, _, rfl, rfl, hyF, hlt, _, _, _, _, _, _, ρ', ys', rfl, by rw [← hcho]; exact z1⟩
        | rare =>
          obtain ⟨ρ', ys', z1⟩ := fin t3 [e.uses, e.used, (s : Int)] (tF _ _ f3) (by rw [r1, hcho]; rfl)
          exact ⟨_, rfl, DGet.k (k := .inr "rare") upd_same, _, _, _, rfl, rfl, hyF, hlt, _, _, _, _, _, _, ρ', ys', rfl, by rw [← hcho]; exact z1⟩
      · subst e0
        have e3 : ls.take (natV ls).length = ls := by
          unfold natV
          rw [List.length_map, List.take_length]
        rw [e3] at ha
        have g6 := g5.mv0 m6
        obtain ⟨hk86, ea, L, hk⟩ := g6.kn
        have hmem : pick (rowAt c.cho mX.kn) ls ∈ ls := by
          cases hls : ls with
          | nil => exact absurd hls hne
          | cons z r => exact (pick_min z r).1
        obtain ⟨e, he⟩ := hkn _ hmem
        have hv := hk.val (s := pick (rowAt c.cho mX.kn) ls)
        rw [he] at hv
        refine ⟨_, rfl, p, _, rfl, g6.g "known" _ rfl, A5.k, rfl, .inl ⟨_, .inl hk.dict⟩, _, rfl, ?_⟩
        dsimp only [tNil]
        refine min_rows hne hy ha fun t ht => ?_
        refine ⟨_, rfl, t, _, _, _, rfl, rfl, SqT.of ht, row_neg1 _ _ _, _, Sum.inl (pick (rowAt c.cho mX.kn) ls : Int), _, hk.dict, rfl, hv, ?_⟩
        have hk7 := hk.del (at_lt he)
        have m7 := hk.mvK (.dK (dropK (kvs ea L) (Sum.inl (pick (rowAt c.cho mX.kn) ls : Int))))
        have g7 := g6.know' (kn := mX.kn.set (pick (rowAt c.cho mX.kn) ls) none) ⟨by rw [set_len]; exact hk86, _, _, hk7⟩ m7
        have hy7 := m7.keeps hy r0 (skN (by decide))
        have ha7 := ha.mono m7.tups
        have mq : Mv SM ρ5 H5 ρ6 _ := (m6.mono s0_sp).trans (m7.mono sk_sm)
        generalize upd H6 A5.k (.dK (dropK (kvs ea L) (Sum.inl (pick (rowAt c.cho mX.kn) ls : Int)))) = H7 at *
        refine ⟨_, rfl, ?_⟩
        dsimp only [tNil]
        refine min_rows hne hy7 ha7 fun t ht => ?_
        refine ⟨_, rfl, t, _, _, _, rfl, rfl, SqT.of ht, row_neg1 _ _ _, _, rfl, (show (2 : Nat) ≤ sizeLine by decide), fun t8 ht8 => ?_⟩
        have m8 : Mv S0 ρ6 H7 _ _ := Mv.refl.new ht8 0 (.tup [.int (pick (rowAt c.cho mX.kn) ls : Nat), .ref q])
        have mAll := mq.trans (m8.mono (S' := SM) s0_sp)
        exact k _ _ t8 q ys5 ⟨A5, g7.mv0 m8⟩ (m5.trans mAll) upd_same (mAll.keeps hq rq sm0) (mAll.ro hq rq) (ha5.mono mAll.tups)
end
end Kb
set_option Elab.async false
set_option linter.all false
set_option maxRecDepth 100000
set_option maxHeartbeats 4000000
namespace Kb
open PySem PySem.Spec PyProof.Rows L2
theorem popM_ok {c : Cfg} {ρ : Ro} {H : Hp} {p : Addr} {A : MA} {m : Mem} {D : Ds} {on : Bool} (g : ModS c ρ H p A m D on) (o : Nat) : ∃ kvs, H A.k = some (.dK kvs) ∧
    (∀ v, valV kvs (Sum.inl (o : Int)) = some v → ModS c ρ (upd H A.k (.dK (dropK kvs (Sum.inl (o : Int))))) p A (drop m o) D on ∧ Mv SM ρ H ρ (upd H A.k (.dK (dropK kvs (Sum.inl (o : Int)))))) ∧ (valV kvs (Sum.inl (o : Int)) = none → drop m o = m) := by
  obtain ⟨hk8, ea, L, hk⟩ := g.kn
  refine ⟨_, hk.dict, fun v hv => ?_, fun hn => ?_⟩
  · rw [hk.val] at hv
    cases he : Kn.at m.kn o with
    | none => rw [he] at hv; cases hv
    | some e =>
      have hk6 := hk.del (at_lt he)
      have m6 := hk.mvK (.dK (dropK (kvs ea L) (Sum.inl (o : Int))))
      exact ⟨g.know' (kn := m.kn.set o none) ⟨by rw [set_len]; exact hk8, _, _, hk6⟩ m6, m6.mono sk_sm⟩
  · rw [hk.val] at hn
    cases he : Kn.at m.kn o with
    | none => exact drop_none he
    | some e => rw [he] at hn; cases hn
section
variable {P : Program} {w : World} {K : PySem.W.Frag} {mg : Str → Option Value} {base : Heap}
def sp_Lword : Sp := Sp5 fun a b d e g H Q => ∃ (c : Cfg) (ρ : Ro) (p tr ts : Addr) (m : Mem) (D : Ds) (on : Bool) (wd : Wd) (y : Way) (rc : Rec) (own tk : Option Nat), a = .ref p ∧ b = .str (wdS wd) ∧ d = .str (wayS y) ∧ e = .ref tr ∧ H tr = some (.tup (recV rc)) ∧ g = .ref ts ∧ H ts = some (.tup [oV own, oV tk]) ∧ ModAt c ρ H p m D on ∧ wd ≠ .mark ∧ (∀ s, tk = some s → s < m.kn.length) ∧
  ∀ (ρ' : Ro) (H' : Hp) (q : Addr) (ys : List V), ModAt c ρ' H' p (word wd m y rc own tk).1 D on → Mv SM ρ H ρ' H' → H' q = some (.lst ys) → ρ' q = 0 → All cS H' (word wd m y rc own tk).2 ys → Q (.ref q) H'
theorem sc_L_word : FnScope ["_law_m", "_law_word_here", "_law_way", "_law_record", "_law_slots", "_law_own", "_law_taken"] ["_law_m", "_law_word_here", "_law_way", "_law_record", "_law_slots"] (defScope s_L_word) := ⟨rfl, rfl, rfl, by decide +kernel, rfl, by decide +kernel, by decide +kernel⟩
theorem c_L_word (T : Txt K mg) : C8.Cal P w K mg base 2 "_law_word" (sp_Lword) [] := by
  refine cal_of T.F_L_word T.g_Lword sc_L_word len5 (fun _ _ _ _ _ _ us hl => match us, hl with | [_, _, _, _, _], _ => rfl) (fun cdv A outer s H vs Q E hr h => ?_)
  obtain ⟨a, b, d, e, g, rfl, c, ρ, p, tr, ts, m, D, on, wd, y, rc, own, tk, rfl, rfl, rfl, rfl, htr, rfl, hts, ⟨A, h⟩, nmk, ht1, k⟩ := h
  refine ⟨_, pss_cons (ps_asg (pv 4) (pg_tup (n := 2) rfl (pgs_cons (pg_name (i := 5) sc_L_word.nd rfl (.inl rfl)) (pgs_cons (pg_name (i := 6) sc_L_word.nd rfl (.inl rfl)) pgs_nil))))
      (pss_cons (ps_if (pt_cmpR op_eq (pv 1) (pe_str) (nomark _)) (pss_one (ps_ret (pe_lst (pa_cons (pe_tup (pa_cons (pe_str) (pa_cons (pe_ix (r := rIxT K) ix_tup (pv 3) (pe_int) (fun _ _ => rfl)) (pa_cons (pe_ix (r := rIxT K) ix_tup (pv 3) (pe_int) (fun _ _ => rfl)) pa_nil)))) pa_nil)))) (pss_nil))
      (pss_cons (ps_if (PW.pt (pw_or (pt_cmpR op_eq (pv 1) (pe_str) (nomark _)) (pw_or1 (pt_cmpR op_eq (pv 1) (pe_str) (nomark _))))) (pss_one (ps_ret (pe_lst (pa_cons (pe_tup (pa_cons (pv 1) pa_nil)) pa_nil)))) (pss_nil))
      (pss_cons (ps_if (pt_cmpR op_isN (pe_dget (hu_of hr) (pv 0) (pe_str) (fun _ _ => rfl)) (pe_non) (nomark _)) (pss_one (ps_ret (pe_lst (pa_nil)))) (pss_nil))
      (pss_cons (ps_if (pt_cmpR op_eq (pv 1) (pe_str) (nomark _)) (pss_one (ps_ret (pe_lst (pa_cons (pe_tup (pa_cons (pv 1) pa_nil)) pa_nil)))) (pss_nil))
      (pss_cons (ps_if (pt_cmpR op_eq (pv 1) (pe_str) (nomark _)) (pss_cons (ps_if (PW.pt (pw_or (pt_cmpR op_eq (pv 2) (pe_str) (nomark _)) (pw_or1 (pt_cmpR op_isN (pv 6) (pe_non) (nomark _))))) (pss_one (ps_ret (pe_lst (pa_nil)))) (pss_nil))
      (pss_cons (ps_expr (C8.pe_c (c_L_know T) hr (by decide) rfl (pa_cons (pv 0) (pa_cons (pv 6) (pa_cons (pv 3) pa_nil)))))
      (pss_cons (ps_if (pt_cmpR op_ne (pv 5) (pv 6) (nomark _)) (pss_one (ps_expr (pe_dpop2N (pe_dget (hu_of hr) (pv 0) (pe_str) (fun _ _ => rfl)) (pv 5) (pe_non) ⟨rfl, rfl, rfl, rfl⟩))) (pss_nil))
      (pss_one (ps_ret (pe_lst (pa_cons (pe_tup (pa_cons (pe_str) (pa_cons (pv 6) (pa_cons (pv 3) pa_nil)))) pa_nil))))))) (pss_nil))
      (pss_cons (ps_if (PW.pt (pw_or (pt_cmpR op_isN (pv 5) (pe_non) (nomark _)) (pw_or (pt_cmpR op_eq (pv 2) (pe_str) (nomark _)) (pw_or1 (PW.pt (pw_and (pt_cmpR op_eq (pv 2) (pe_str) (nomark _)) (pw_and1 (pt_cmpR op_eq (pv 5) (pv 6) (nomark _))))))))) (pss_one (ps_ret (pe_lst (pa_nil)))) (pss_nil))
      (pss_cons (ps_expr (pe_dpop2N (pe_dget (hu_of hr) (pv 0) (pe_str) (fun _ _ => rfl)) (pv 5) (pe_non) ⟨rfl, rfl, rfl, rfl⟩))
      (pss_one (ps_ret (pe_lst (pa_cons (pe_tup (pa_cons (pe_str) (pa_cons (pv 5) (pa_cons (pe_non) pa_nil)))) pa_nil))))))))))), ?_⟩
  refine ⟨_, rfl, ts, _, rfl, SqT.of hts, rfl, _, _, rfl, _, _, rfl, rfl, ?_⟩
  -- a list of one step
  have one : ∀ (ρ1 : Ro) (H1 : Hp) (m1 : Mem) (s : Stp) (t : Addr) (zs : List V) (q : Addr), ModAt c ρ1 H1 p m1 D on → Mv SM ρ H ρ1 H1 → H1 t = none → upd H1 t (.tup zs) q = none → stepAt (upd H1 t (.tup zs)) t s → word wd m y rc own tk = (m1, [s]) → Q (.ref q) (upd (upd H1 t (.tup zs)) q (.lst [.ref t])) := fun ρ1 H1 m1 s t zs q g1 mm ht hq hst hw => by
    rw [hw] at k
    have w1 : Mv S0 ρ1 H1 _ _ := (Mv.refl.new ht 0 (.tup zs)).new hq 0 (.lst [.ref t])
    have kk : ∀ b xs, upd H1 t (.tup zs) b = some (.tup xs) → upd (upd H1 t (.tup zs)) q (.lst [.ref t]) b = some (.tup xs) := fun b xs z => (upd_ne (ne_of_none z hq)).trans z
    exact k _ _ q [.ref t] (g1.mv0 w1) (mm.trans (w1.mono s0_sp)) upd_same rs_same (.cons (cS.mono kk ⟨t, rfl, hst⟩) .nil)
  have none_ : ∀ (q : Addr), H q = none → word wd m y rc own tk = (m, []) → Q (.ref q) (upd H q (.lst [])) := fun q hq hw => by
    rw [hw] at k
    have w1 : Mv S0 ρ H _ _ := Mv.refl.new hq 0 (.lst [])
    exact k _ _ q [] ⟨A, h.mv0 w1⟩ (w1.mono s0_sp) upd_same rs_same .nil
  cases wd with
  | mark => exact absurd rfl nmk
  | slow =>
    refine ⟨_, rfl, rfl, _, rfl, ite_tt (by decide +kernel) ?_⟩
    exact ⟨_, rfl, tr, _, _, _, rfl, rfl, SqT.of htr, rfl, _, rfl, tr, _, _, _, rfl, rfl, SqT.of htr, rfl, (show (3 : Nat) ≤ sizeLine by decide), fun t ht => ⟨(show (1 : Nat) ≤ sizeLine by decide), fun q hq => one ρ H m (.slow rc.b rc.v) t _ q ⟨A, h⟩ Mv.refl ht hq upd_same rfl⟩⟩
  | sslow =>
    refine ⟨_, rfl, rfl, _, rfl, ite_ff (by decide +kernel) ⟨_, rfl, rfl, _, rfl, ite_tt (by decide +kernel) (iteT ?_)⟩⟩
    exact ⟨_, rfl, (show (1 : Nat) ≤ sizeLine by decide), fun t ht => ⟨(show (1 : Nat) ≤ sizeLine by decide), fun q hq => one ρ H m .sslow t _ q ⟨A, h⟩ Mv.refl ht hq upd_same rfl⟩⟩
  | done =>
    refine ⟨_, rfl, rfl, _, rfl, ite_ff (by decide +kernel) ⟨_, rfl, rfl, _, rfl, ite_ff (by decide +kernel) ⟨_, rfl, rfl, _, rfl, ite_tt (by decide +kernel) ?_⟩⟩⟩
    exact ⟨_, rfl, (show (1 : Nat) ≤ sizeLine by decide), fun t ht => ⟨(show (1 : Nat) ≤ sizeLine by decide), fun q hq => one ρ H m .done t _ q ⟨A, h⟩ Mv.refl ht hq upd_same rfl⟩⟩
  | sfast =>
    refine ⟨_, rfl, rfl, _, rfl, ite_ff (by decide +kernel) ⟨_, rfl, rfl, _, rfl, ite_ff (by decide +kernel) ⟨_, rfl, rfl, _, rfl, ite_ff (by decide +kernel) ?_⟩⟩⟩
    refine ⟨_, rfl, p, _, rfl, h.g "fast" _ rfl, rfl, _, rfl, ite_ff (by simp) ⟨_, rfl, rfl, _, rfl, ite_tt (by decide +kernel) ?_⟩⟩
    exact ⟨_, rfl, (show (1 : Nat) ≤ sizeLine by decide), fun t ht => ⟨(show (1 : Nat) ≤ sizeLine by decide), fun q hq => one ρ H m .sfast t _ q ⟨A, h⟩ Mv.refl ht hq upd_same rfl⟩⟩
  | fast =>
    refine ⟨_, rfl, rfl, _, rfl, ite_ff (by decide +kernel) ⟨_, rfl, rfl, _, rfl, ite_ff (by decide +kernel) ⟨_, rfl, rfl, _, rfl, ite_ff (by decide +kernel) ?_⟩⟩⟩
    refine ⟨_, rfl, p, _, rfl, h.g "fast" _ rfl, rfl, _, rfl, ite_ff (by simp) ⟨_, rfl, rfl, _, rfl, ite_ff (by decide +kernel) ⟨_, rfl, rfl, _, rfl, ite_tt (by decide +kernel) ?_⟩⟩⟩
    refine ⟨_, rfl, rfl, _, rfl, ?_⟩
    by_cases hy : y = .arou
    · subst hy
      exact ite_tt (by decide +kernel) (iteT ⟨(show (0 : Nat) ≤ sizeLine by decide), fun q hq => none_ q hq word_fastA⟩)
    · refine ite_ff (by cases y <;> first | exact absurd rfl hy | decide +kernel) ⟨_, rfl, rfl, _, rfl, ?_⟩
      cases tk with
      | none => exact ite_tt (by simp [oV]) ⟨(show (0 : Nat) ≤ sizeLine by decide), fun q hq => none_ q hq rfl⟩
      | some t =>
        refine ite_ff (by simp [oV]) ?_
        refine ⟨_, rfl, _, rfl, _, rfl, _, _, _, rfl, c, ρ, p, m, D, on, t, rc, rfl, rfl, ⟨tr, rfl, htr⟩, ⟨A, h⟩, ht1 t rfl, fun ρ1 H1 ⟨A1, g1⟩ m1 => ?_⟩
        have htr1 := m1.tups _ _ htr
        refine ⟨_, rfl, _, rfl, oV_scal own (some t), _, rfl, ?_⟩
        have stp : ∀ (ρ2 : Ro) (H2 : Hp) (m2 : Mem) (t' q : Addr), ModAt c ρ2 H2 p m2 D on → Mv SM ρ H ρ2 H2 → H2 t' = none → upd H2 t' (.tup [.str "fast", .int (t : Int), .ref tr]) q = none → word .fast m y rc own (some t) = (m2, [.fast t (some rc)]) → Q (.ref q) (upd (upd H2 t' (.tup [.str "fast", .int (t : Int), .ref tr])) q (.lst [.ref t'])) := fun ρ2 H2 m2 t' q g mm ht hq hw =>
          one ρ2 H2 m2 (.fast t (some rc)) t' _ q g mm ht hq ⟨.ref tr, upd_same, tr, rfl, (upd_ne (ne_of_none (mm.tups _ _ htr) ht)).trans (mm.tups _ _ htr)⟩ hw
        by_cases hot : own = some t
        · refine ite_ff (oV_eqT _ _ hot) ⟨_, rfl, _, rfl, (show (3 : Nat) ≤ sizeLine by decide), fun t' ht' => ⟨(show (1 : Nat) ≤ sizeLine by decide), fun q hq => stp ρ1 H1 (know m t rc) t' q ⟨A1, g1⟩ m1 ht' hq (by rw [word_fast hy, if_pos hot])⟩⟩
        · refine ite_tt (oV_ne _ _ hot) ?_
          cases own with
          | none =>
            obtain ⟨hk8, ea, L, hk⟩ := g1.kn
            refine ⟨_, rfl, p, _, rfl, g1.g "known" _ rfl, A1.k, rfl, .inl ⟨_, .inl hk.dict⟩, _, rfl, .inr ⟨_, hk.dict, rfl, ?_⟩⟩
            exact ⟨_, rfl, _, rfl, (show (3 : Nat) ≤ sizeLine by decide), fun t' ht' => ⟨(show (1 : Nat) ≤ sizeLine by decide), fun q hq => stp ρ1 H1 (know m t rc) t' q ⟨A1, g1⟩ m1 ht' hq (by rw [word_fast hy, if_neg hot]; rfl)⟩⟩
          | some o =>
            obtain ⟨kvs, hk1, hk2, hk3⟩ := popM_ok g1 o
            refine ⟨_, rfl, p, _, rfl, g1.g "known" _ rfl, A1.k, rfl, .inl ⟨_, .inl hk1⟩, _, rfl, .inl ⟨kvs, Sum.inl (o : Int), hk1, rfl, fun v hv => ?_, fun hn => ?_⟩⟩
            · obtain ⟨g2, m2⟩ := hk2 v hv
              exact ⟨_, rfl, _, rfl, (show (3 : Nat) ≤ sizeLine by decide), fun t' ht' => ⟨(show (1 : Nat) ≤ sizeLine by decide), fun q hq => stp ρ1 _ (drop (know m t rc) o) t' q ⟨A1, g2⟩ (m1.trans m2) ht' hq (by rw [word_fast hy, if_neg hot]; rfl)⟩⟩
            · have e := hk3 hn
              exact ⟨_, rfl, _, rfl, (show (3 : Nat) ≤ sizeLine by decide), fun t' ht' => ⟨(show (1 : Nat) ≤ sizeLine by decide), fun q hq => stp ρ1 H1 (know m t rc) t' q ⟨A1, g1⟩ m1 ht' hq (by rw [word_fast hy, if_neg hot]; show (drop (know m t rc) o, _) = _; rw [e])⟩⟩
  | free =>
    refine ⟨_, rfl, rfl, _, rfl, ite_ff (by decide +kernel) ⟨_, rfl, rfl, _, rfl, ite_ff (by decide +kernel) ⟨_, rfl, rfl, _, rfl, ite_ff (by decide +kernel) ?_⟩⟩⟩
    refine ⟨_, rfl, p, _, rfl, h.g "fast" _ rfl, rfl, _, rfl, ite_ff (by simp) ⟨_, rfl, rfl, _, rfl, ite_ff (by decide +kernel) ⟨_, rfl, rfl, _, rfl, ite_ff (by decide +kernel) ?_⟩⟩⟩
    refine ⟨_, rfl, rfl, _, rfl, ?_⟩
    cases own with
    | none => exact ite_tt (by simp [oV]) (iteT ⟨(show (0 : Nat) ≤ sizeLine by decide), fun q hq => none_ q hq rfl⟩)
    | some o =>
      refine ite_ff (by simp [oV]) ⟨_, rfl, rfl, _, rfl, ?_⟩
      have go : ¬ (y = .thr ∨ (y = .back ∧ some o = tk)) → ∃ (kvs : List (Key × V)), H A.k = some (.dK kvs) ∧ (∀ v, valV kvs (Sum.inl (o : Int)) = some v → ∀ t, upd H A.k (.dK (dropK kvs (Sum.inl (o : Int)))) t = none → ∀ q, upd (upd H A.k (.dK (dropK kvs (Sum.inl (o : Int))))) t (.tup [.str "fast", .int (o : Int), .non]) q = none → Q (.ref q) (upd (upd (upd H A.k (.dK (dropK kvs (Sum.inl (o : Int))))) t (.tup [.str "fast", .int (o : Int), .non])) q (.lst [.ref t]))) ∧
          (valV kvs (Sum.inl (o : Int)) = none → ∀ t, H t = none → ∀ q, upd H t (.tup [.str "fast", .int (o : Int), .non]) q = none → Q (.ref q) (upd (upd H t (.tup [.str "fast", .int (o : Int), .non])) q (.lst [.ref t]))) := fun hw => by
        obtain ⟨kvs, hk1, hk2, hk3⟩ := popM_ok h o
        refine ⟨kvs, hk1, fun v hv t ht q hq => ?_, fun hn t ht q hq => ?_⟩
        · obtain ⟨g2, m2⟩ := hk2 v hv
          exact one ρ _ (drop m o) (.fast o none) t _ q ⟨A, g2⟩ m2 ht hq ⟨.non, upd_same, rfl⟩ (word_free hw)
        · exact one ρ H m (.fast o none) t _ q ⟨A, h⟩ Mv.refl ht hq ⟨.non, upd_same, rfl⟩ (by rw [word_free hw, hk3 hn])
      cases y with
      | thr => exact ite_tt (by decide +kernel) (iteT ⟨(show (0 : Nat) ≤ sizeLine by decide), fun q hq => none_ q hq (word_freeN (.inl rfl))⟩)
      | arou =>
        obtain ⟨kvs, z1, z2, z3⟩ := go (by simp)
        refine ite_ff (by decide +kernel) ⟨_, rfl, rfl, _, rfl, ite_ff (by decide +kernel) (iteF ?_)⟩
        exact ⟨_, rfl, p, _, rfl, h.g "known" _ rfl, A.k, rfl, .inl ⟨_, .inl z1⟩, _, rfl, .inl ⟨kvs, Sum.inl (o : Int), z1, rfl, fun v hv => ⟨_, rfl, (show (3 : Nat) ≤ sizeLine by decide), fun t ht => ⟨(show (1 : Nat) ≤ sizeLine by decide), fun q hq => z2 v hv t ht q hq⟩⟩, fun hn => ⟨_, rfl, (show (3 : Nat) ≤ sizeLine by decide), fun t ht => ⟨(show (1 : Nat) ≤ sizeLine by decide), fun q hq => z3 hn t ht q hq⟩⟩⟩⟩
      | back =>
        refine ite_ff (by decide +kernel) ⟨_, rfl, rfl, _, rfl, ite_tt (by decide +kernel) ⟨_, rfl, _, rfl, oV_scal (some o) tk, _, rfl, ?_⟩⟩
        by_cases hot : (some o : Option Nat) = tk
        · exact ite_tt (by rw [oV_eq]; exact decide_eq_true hot) ⟨(show (0 : Nat) ≤ sizeLine by decide), fun q hq => none_ q hq (word_freeN (.inr ⟨rfl, hot⟩))⟩
        · obtain ⟨kvs, z1, z2, z3⟩ := go (by rintro (z | ⟨_, z⟩); cases z; exact hot z)
          refine ite_ff (by rw [oV_eq]; exact decide_eq_false hot) ?_
          exact ⟨_, rfl, p, _, rfl, h.g "known" _ rfl, A.k, rfl, .inl ⟨_, .inl z1⟩, _, rfl, .inl ⟨kvs, Sum.inl (o : Int), z1, rfl, fun v hv => ⟨_, rfl, (show (3 : Nat) ≤ sizeLine by decide), fun t ht => ⟨(show (1 : Nat) ≤ sizeLine by decide), fun q hq => z2 v hv t ht q hq⟩⟩, fun hn => ⟨_, rfl, (show (3 : Nat) ≤ sizeLine by decide), fun t ht => ⟨(show (1 : Nat) ≤ sizeLine by decide), fun q hq => z3 hn t ht q hq⟩⟩⟩⟩
end
end Kb
set_option Elab.async false
set_option linter.all false
set_option maxRecDepth 100000
set_option maxHeartbeats 4000000
namespace Kb
open PySem PySem.Spec PyProof.Rows L2
theorem all_app {α : Type} {c : Cell α} {H : Hp} : ∀ {l m : List α} {xs ys : List V}, All c H l xs → All c H m ys → All c H (l ++ m) (xs ++ ys)
  | _, _, _, _, .nil, h => h
  | _, _, _, _, .cons r t, h => .cons r (all_app t h)
section
variable {P : Program} {w : World} {K : PySem.W.Frag} {mg : Str → Option Value} {base : Heap}
def sp_Lread : Sp := Sp2 fun a b H Q => ∃ (c : Cfg) (ρ : Ro) (p : Addr) (m : Mem) (D : Ds) (on : Bool) (n : Nat), a = .ref p ∧ b = .int (n : Int) ∧ ModAt c ρ H p m D on ∧ OkC c ∧ Uq m.kn ∧ 1 ≤ m.kn.length ∧ D.fast.sh.length = m.kn.length ∧ n < D.slow.sh.length ∧
  ∀ (ρ' : Ro) (H' : Hp) (t q : Addr) (ys : List V), ModAt c ρ' H' p (read c m n (svAt D n)).2.1 D on → Mv SM ρ H ρ' H' → H' t = some (.tup [.int (read c m n (svAt D n)).1, .ref q]) → H' q = some (.lst ys) → ρ' q = 0 → All cS H' (read c m n (svAt D n)).2.2 ys → ys.length ≤ 100 → Q (.ref t) H'
theorem sc_L_read : FnScope ["_law_m", "_law_block", "_law_own", "_law_value", "_law_steps", "_law_slot_here", "_law_more"] ["_law_m", "_law_block"] (defScope s_L_read) := ⟨rfl, rfl, rfl, by decide +kernel, rfl, by decide +kernel, by decide +kernel⟩
theorem c_L_read (T : Txt K mg) : C8.Cal P w K mg base 3 "_law_read" (sp_Lread) [] := by
  refine cal_of T.F_L_read T.g_Lread sc_L_read len2 (fun _ _ _ _ _ _ us hl => match us, hl with | [_, _], _ => rfl) (fun cdv A outer s H vs Q E hr h => ?_)
  obtain ⟨a, b, rfl, c, ρ, p, m, D, on, n, rfl, rfl, ⟨A, h⟩, ok, u, n1, hfl, hn, k⟩ := h
  refine ⟨_, pss_cons (ps_set (i := 2) sc_L_read.nd rfl (.inl rfl) (C8.pe_c (c_L_begin T) hr (by decide) rfl (pa_cons (pv 0) (pa_cons (pv 1) pa_nil))))
      (pss_cons (ps_if (pt_cmpR op_notN (pv 2) (pe_non) (nomark _)) (pss_one (ps_ret (pe_tup (pa_cons (pe_ix (r := rIxT K) ix_tup (pe_ix (r := rIxL K) ix_list (pe_dget (hu_of hr) (pe_dget (hu_of hr) (pv 0) (pe_str) (fun _ _ => rfl)) (pv 2) (fun _ _ => rfl)) (pe_int) (fun _ _ => rfl)) (pe_int) (fun _ _ => rfl)) (pa_cons (pe_lst (pa_cons (pe_tup (pa_cons (pe_str) (pa_cons (pe_str) pa_nil))) pa_nil)) pa_nil))))) (pss_nil))
      (pss_cons (ps_par (i := 3) (j := 4) (by rfl) sc_L_read.nd rfl rfl (by decide) rfl rfl (pa_cons (pe_ix (r := rIxL K) ix_list (pe_ix (r := rIxL K) ix_list (pe_dget (hu_of hr) (pv 0) (pe_str) (fun _ _ => rfl)) (pe_int) (fun _ _ => rfl)) (pv 1) (fun _ _ => rfl)) (pa_cons (pe_lst (pa_cons (pe_tup (pa_cons (pe_str) (pa_cons (pe_str) pa_nil))) pa_nil)) pa_nil)) (by rfl))
      (pss_cons (ps_if (PW.pt (pw_and (pt_cmpR op_eq (pe_ix (r := rIxT K) ix_tup (pe_dget (hu_of hr) (pv 0) (pe_str) (fun _ _ => rfl)) (pe_int) (fun _ _ => rfl)) (pe_str) (nomark _)) (pw_and1 (pt_cmpR op_notN (pe_dget (hu_of hr) (pv 0) (pe_str) (fun _ _ => rfl)) (pe_non) (nomark _))))) (pss_cons (ps_asg (C8.pe_c (c_L_take T) hr (by decide) rfl (pa_cons (pv 0) pa_nil)) (pg_tup (n := 2) rfl (pgs_cons (pg_name (i := 5) sc_L_read.nd rfl (.inl rfl)) (pgs_cons (pg_name (i := 6) sc_L_read.nd rfl (.inl rfl)) pgs_nil))))
      (pss_cons (ps_expr (C8.pe_c (c_L_know T) hr (by decide) rfl (pa_cons (pv 0) (pa_cons (pv 5) (pa_cons (pe_tup (pa_cons (pv 1) (pa_cons (pv 3) (pa_cons (pe_int) (pa_cons (pe_bl) pa_nil))))) pa_nil)))))
      (pss_one (ps_set (i := 4) sc_L_read.nd rfl (.inl rfl) (pe_op op_cat (pe_op op_cat (pv 4) (pv 6)) (pe_lst (pa_cons (pe_tup (pa_cons (pe_str) (pa_cons (pv 5) (pa_cons (pe_tup (pa_cons (pv 1) (pa_cons (pv 3) (pa_cons (pe_int) (pa_cons (pe_bl) pa_nil))))) pa_nil)))) pa_nil))))))) (pss_nil))
      (pss_one (ps_ret (pe_tup (pa_cons (pv 3) (pa_cons (pv 4) pa_nil)))))))), ?_⟩
  refine ⟨_, rfl, _, rfl, _, _, rfl, c, ρ, p, m, D, on, n, rfl, rfl, ⟨A, h⟩, u, fun ρ1 H1 ⟨A1, g1⟩ m1 => ?_⟩
  cases hsl : slotOf m.kn n with
  | some s =>
    obtain ⟨e, he, heb⟩ := slotOf_at hsl
    rw [read_hit hsl he] at k
    rw [begin_some hsl] at k g1 ⊢
    have he1 : Kn.at (modE m.kn s (fun e => touch e m.begun)) s = some (touch e m.begun) := by rw [modE_at he, at_set (at_lt he), if_pos rfl]
    obtain ⟨hk8, ea, L, hk⟩ := g1.kn
    obtain ⟨rr, t, f1, f2⟩ := hk.ent s _ he1
    have dg := hk.dget (s := s)
    rw [show Kn.at _ s = some (touch e m.begun) from he1] at dg
    refine ⟨_, rfl, rfl, _, rfl, ite_tt (nn_some s) ?_⟩
    refine ⟨_, rfl, p, _, rfl, g1.g "known" _ rfl, _, rfl, A1.k, _, rfl, dg, ea s, _, _, _, rfl, rfl, SqL.of f1, rfl, t, _, _, _, rfl, rfl, SqT.of f2, rfl, (show (2 : Nat) ≤ sizeLine by decide), fun t1 ht1 => ⟨(show (1 : Nat) ≤ sizeLine by decide), fun q hq => ⟨(show (2 : Nat) ≤ sizeLine by decide), fun t2 ht2 => ?_⟩⟩⟩
    have w1 : Mv S0 ρ1 H1 _ _ := ((Mv.refl.new ht1 0 (.tup [.str "read", .str "fast"])).new hq 0 (.lst [.ref t1])).new ht2 0 (.tup [.int e.r.v, .ref q])
    have e1 : upd H1 t1 (.tup [.str "read", .str "fast"]) t1 = some (.tup [.str "read", .str "fast"]) := upd_same
    have e2 := (upd_ne (o := .lst [.ref t1]) (ne_of_none e1 hq)).trans e1
    have e3 := (upd_ne (o := .tup [.int e.r.v, .ref q]) (ne_of_none e2 ht2)).trans e2
    have q1 : upd (upd H1 t1 (.tup [.str "read", .str "fast"])) q (.lst [.ref t1]) q = some (.lst [.ref t1]) := upd_same
    exact k _ _ t2 q [.ref t1] ⟨A1, g1.mv0 w1⟩ (m1.trans (w1.mono s0_sp)) upd_same ((upd_ne (ne_of_none q1 ht2)).trans q1) ((rs_ne (ne_of_none q1 ht2)).trans rs_same) (.cons ⟨t1, rfl, e3⟩ .nil) (by simp)
  | none =>
    have hbl := begin_len (m := m) (b := n)
    rw [read_miss hsl] at k
    have e0 : (begin_ m n).1 = none := by rw [begin_none hsl]
    rw [e0]
    generalize (begin_ m n).2 = mb at *
    obtain ⟨Ls, hs, rs_, hsk⟩ := g1.slow
    obtain ⟨vs, hv1, qv⟩ := hsk.sh
    have hsv : D.slow.sh[n]? = some (svAt D n) := by
      unfold svAt
      rw [List.getElem?_eq_getElem hn]
      rfl
    obtain ⟨vx, hvx, hvr⟩ := qv.get hsv
    cases (show vx = .int (svAt D n) from hvr)
    generalize svAt D n = sv at *
    refine ⟨_, rfl, rfl, _, rfl, ite_ff nn_none ?_⟩
    refine ⟨_, rfl, p, _, rfl, g1.g "slow" _ rfl, A1.s, _, _, _, rfl, rfl, SqL.of hs, rfl, _, rfl, _, _, _, _, rfl, rfl, SqL.of hv1, atI_nat hvx, (show (2 : Nat) ≤ sizeLine by decide), fun t1 ht1 => ⟨(show (1 : Nat) ≤ sizeLine by decide), fun q hq => ⟨_, _, rfl, ?_⟩⟩⟩
    have w1 : Mv S0 ρ1 H1 _ _ := (Mv.refl.new ht1 0 (.tup [.str "read", .str "slow"])).new hq 0 (.lst [.ref t1])
    have e1 : upd H1 t1 (.tup [.str "read", .str "slow"]) t1 = some (.tup [.str "read", .str "slow"]) := upd_same
    have e2 := (upd_ne (o := .lst [.ref t1]) (ne_of_none e1 hq)).trans e1
    have q1 : upd (upd H1 t1 (.tup [.str "read", .str "slow"])) q (.lst [.ref t1]) q = some (.lst [.ref t1]) := upd_same
    have r1 : rs (rs ρ1 t1 0) q 0 q = 0 := rs_same
    have g2 := g1.mv0 w1
    have m2 := m1.trans (w1.mono (S' := SM) s0_sp)
    generalize upd (upd H1 t1 (.tup [.str "read", .str "slow"])) q (.lst [.ref t1]) = H2 at *
    generalize rs (rs ρ1 t1 0) q 0 = ρ2 at *
    refine ⟨_, rfl, p, _, rfl, g2.g "rules" _ rfl, A1.r, _, _, _, rfl, rfl, SqT.of g2.rul, rfl, rfl, _, rfl, ?_⟩
    cases hkp : c.keep with
    | false =>
      rw [hkp, if_neg Bool.false_ne_true] at k
      refine ite_ff (by decide +kernel) (iteF ⟨_, rfl, _, rfl, (show (2 : Nat) ≤ sizeLine by decide), fun t2 ht2 => ?_⟩)
      have w2 : Mv S0 ρ2 H2 _ _ := Mv.refl.new ht2 0 (.tup [.int sv, .ref q])
      exact k _ _ t2 q [.ref t1] ⟨A1, g2.mv0 w2⟩ (m2.trans (w2.mono s0_sp)) upd_same (w2.at0 q1) (w2.ro q1 r1) (.cons ⟨t1, rfl, w2.tups _ _ e2⟩ .nil) (by simp)
    | true =>
      rw [hkp, if_pos rfl] at k
      refine ite_tt (by decide +kernel) ⟨_, rfl, p, _, rfl, g2.g "fast" _ rfl, rfl, _, rfl, ite_tt (nn_ref _) ?_⟩
      refine ⟨_, rfl, _, rfl, c, ρ2, p, mb, D, on, rfl, ⟨A1, g2⟩, ok, by rw [hbl]; exact n1, by rw [hbl]; exact hfl, fun ρ3 H3 t3 q3 ys3 ⟨A3, g3⟩ m3 ht3 hq3 r3 ha3 => ?_⟩
      have hlt := take_lt (c := c) (m := mb) (by rw [hbl]; exact n1)
      have htl := take_len (c := c) (m := mb)
      have hst := take_steps ok (m := mb)
      have hy3 := ha3.len
      generalize take c mb = tk at *
      have q3' := m3.keeps q1 r1 sm0
      have r3' := m3.ro q1 r1
      refine ⟨t3, _, rfl, SqT.of ht3, rfl, _, _, rfl, _, _, rfl, rfl, ?_⟩
      refine ⟨_, rfl, _, rfl, _, rfl, _, rfl, (show (4 : Nat) ≤ sizeLine by decide), fun t4 ht4 => ?_⟩
      have w4 : Mv S0 ρ3 H3 _ _ := Mv.refl.new ht4 0 (.tup (recV ⟨n, sv, 0, false⟩))
      refine ⟨_, _, _, rfl, c, _, p, tk.2.1, D, on, tk.1, ⟨n, sv, 0, false⟩, rfl, rfl, ⟨t4, rfl, upd_same⟩, ⟨A3, g3.mv0 w4⟩, by rw [htl]; exact hlt, fun ρ5 H5 ⟨A5, g5⟩ m5 => ?_⟩
      have m35 := (w4.mono (S' := SM) s0_sp).trans m5
      have q5 := m35.keeps q3' r3' sm0
      have q53 := m35.keeps hq3 r3 sm0
      have e5 := m35.tups _ _ (m3.tups _ _ e2)
      have a5 := ha3.mono m35.tups
      refine ⟨_, rfl, _, rfl, q, q3, _, _, rfl, rfl, q5, q53, by
        rw [List.length_singleton, ← hy3]
        exact Nat.le_trans (show 1 + tk.2.2.length ≤ 100 by omega) (by decide), fun q6 hq6 => ?_⟩
      refine ⟨_, rfl, _, rfl, _, rfl, (show (4 : Nat) ≤ sizeLine by decide), fun t7 ht7 => ⟨(show (3 : Nat) ≤ sizeLine by decide), fun t8 ht8 => ⟨(show (1 : Nat) ≤ sizeLine by decide), fun q9 hq9 => ?_⟩⟩⟩
      have w9 : Mv S0 ρ5 H5 _ _ := (((Mv.refl.new hq6 0 (.lst ([.ref t1] ++ ys3))).new ht7 0 (.tup (recV ⟨n, sv, 0, false⟩))).new ht8 0 (.tup [.str "fast", .int (tk.1 : Int), .ref t7])).new hq9 0 (.lst [.ref t8])
      have f6 : upd H5 q6 (.lst ([.ref t1] ++ ys3)) q6 = some (.lst ([.ref t1] ++ ys3)) := upd_same
      have w6 : Mv S0 (rs ρ5 q6 0) (upd H5 q6 (.lst ([.ref t1] ++ ys3))) _ _ := ((Mv.refl.new ht7 0 (.tup (recV ⟨n, sv, 0, false⟩))).new ht8 0 (.tup [.str "fast", .int (tk.1 : Int), .ref t7])).new hq9 0 (.lst [.ref t8])
      have f6' := w6.at0 f6
      have w7 : Mv S0 (rs (rs ρ5 q6 0) t7 0) (upd (upd H5 q6 (.lst ([.ref t1] ++ ys3))) t7 (.tup (recV ⟨n, sv, 0, false⟩))) _ _ := (Mv.refl.new ht8 0 (.tup [.str "fast", .int (tk.1 : Int), .ref t7])).new hq9 0 (.lst [.ref t8])
      have f7 := w7.tups t7 (recV ⟨n, sv, 0, false⟩) upd_same
      have w8 : Mv S0 (rs (rs (rs ρ5 q6 0) t7 0) t8 0) (upd (upd (upd H5 q6 (.lst ([.ref t1] ++ ys3))) t7 (.tup (recV ⟨n, sv, 0, false⟩))) t8 (.tup [.str "fast", .int (tk.1 : Int), .ref t7])) _ _ := Mv.refl.new hq9 0 (.lst [.ref t8])
      have f8 := w8.tups t8 [.str "fast", .int (tk.1 : Int), .ref t7] upd_same
      refine ⟨q6, q9, _, _, rfl, rfl, f6', upd_same, by
        rw [List.length_append, List.length_singleton, List.length_singleton, ← hy3]
        exact Nat.le_trans (show 1 + tk.2.2.length + 1 ≤ 100 by omega) (by decide), fun q10 hq10 => ⟨_, rfl, _, rfl, (show (2 : Nat) ≤ sizeLine by decide), fun t11 ht11 => ?_⟩⟩
      have wE := (Mv.refl (S := S0) (ρ := rs (rs (rs (rs ρ5 q6 0) t7 0) t8 0) q9 0)).new hq10 0 (.lst (([.ref t1] ++ ys3) ++ [.ref t8])) |>.new ht11 0 (.tup [.int sv, .ref q10])
      refine k _ _ t11 q10 (([.ref t1] ++ ys3) ++ [.ref t8]) ⟨A5, (g5.mv0 w9).mv0 wE⟩ ((((m2.trans m3).trans m35).trans (w9.mono s0_sp)).trans (wE.mono s0_sp)) upd_same ((upd_ne (ne_of_none upd_same ht11)).trans upd_same) ((rs_ne (ne_of_none upd_same ht11)).trans rs_same) ?_ ?_
      · have a1 : All cS _ (tk.2.2 ++ [Stp.fast tk.1 (some ⟨n, sv, 0, false⟩)]) (ys3 ++ [.ref t8]) := all_app ((a5.mono w9.tups).mono wE.tups) (.cons ⟨t8, rfl, .ref t7, wE.tups _ _ f8, t7, rfl, wE.tups _ _ f7⟩ .nil)
        rw [List.append_assoc]
        exact .cons ⟨t1, rfl, wE.tups _ _ (w9.tups _ _ e5)⟩ a1
      · rw [List.length_append, List.length_append, List.length_singleton, List.length_singleton, ← hy3]
        omega
end
end Kb
set_option Elab.async false
set_option linter.all false
set_option maxRecDepth 100000
set_option maxHeartbeats 4000000
namespace Kb
open PySem PySem.Spec PyProof.Rows L2
theorem way_ix (y : Way) : ∃ z, ([.str "through", .str "back", .str "around"] : List V)[wayN y]? = some z ∧ eqV z (.str (wayS y)) = true ∧ ∀ (m : Nat) (z' : V), m < wayN y → ([.str "through", .str "back", .str "around"] : List V)[m]? = some z' → eqV z' (.str (wayS y)) = false := by
  cases y with
  | thr => exact ⟨_, rfl, by decide +kernel, fun m z' h => absurd h (Nat.not_lt_zero _)⟩
  | back =>
    refine ⟨_, rfl, by decide +kernel, fun m z' h hz => ?_⟩
    have h : m < 1 := h
    obtain rfl : m = 0 := by omega
    cases hz
    decide +kernel
  | arou =>
    refine ⟨_, rfl, by decide +kernel, fun m z' h hz => ?_⟩
    have h : m < 2 := h
    obtain rfl | rfl : m = 0 ∨ m = 1 := by omega
    · cases hz
      decide +kernel
    · cases hz
      decide +kernel
theorem rcpN_way (c : Cfg) (y : Way) : rcpN c (wayN y) = c.rcp y := by cases y <;> rfl
section
variable {P : Program} {w : World} {K : PySem.W.Frag} {mg : Str → Option Value} {base : Heap}
def sp_Lwrite : Sp := Sp3 fun a b d H Q => ∃ (c : Cfg) (ρ : Ro) (p : Addr) (m : Mem) (D : Ds) (on : Bool) (n nb : Nat) (v : Int), a = .ref p ∧ b = .int (n : Int) ∧ d = .int v ∧ ModAt c ρ H p m D on ∧ OkC c ∧ WF nb m D ∧ D.fast.sh.length = m.kn.length ∧ n < nb ∧
  ∀ (ρ' : Ro) (H' : Hp) (t q : Addr) (ys : List V), ModAt c ρ' H' p (write c m n v).2.1 D on → Mv SM ρ H ρ' H' → H' t = some (.tup [.bl (write c m n v).1, .ref q]) → H' q = some (.lst ys) → ρ' q = 0 → All cS H' (write c m n v).2.2 ys → ys.length ≤ 100 → Q (.ref t) H'
theorem sc_L_write : FnScope ["_law_m", "_law_block", "_law_value", "_law_own", "_law_turn", "_law_way", "_law_taken", "_law_steps", "_law_word_here", "_law_dirty", "_law_slot_here"] ["_law_m", "_law_block", "_law_value"] (defScope s_L_write) := ⟨rfl, rfl, rfl, by decide +kernel, rfl, by decide +kernel, by decide +kernel⟩
theorem c_L_write (T : Txt K mg) : C8.Cal P w K mg base 3 "_law_write" (sp_Lwrite) [] := by
  refine cal_of T.F_L_write T.g_Lwrite sc_L_write len3 (fun _ _ _ _ _ _ us hl => match us, hl with | [_, _, _], _ => rfl) (fun cdv A outer s H vs Q E hr h => ?_)
  obtain ⟨a, b, d, rfl, c, ρ, p, m, D, on, n, nb, v, rfl, rfl, rfl, ⟨A, h⟩, ok, wf, hfl, hn, k⟩ := h
  rw [write_eq] at k
  refine ⟨_, pss_cons (ps_par3 (i := 3) (j := 4) (l := 5) (by rfl) sc_L_write.nd rfl rfl rfl (by decide) (by decide) (by decide) rfl rfl rfl (pa_cons (C8.pe_c (c_L_begin T) hr (by decide) rfl (pa_cons (pv 0) (pa_cons (pv 1) pa_nil))) (pa_cons (pe_dget (hu_of hr) (pv 0) (pe_str) (fun _ _ => rfl)) (pa_cons (pe_ix (r := rIxT K) ix_tup (pe_dget (hu_of hr) (pv 0) (pe_str) (fun _ _ => rfl)) (pe_int) (fun _ _ => rfl)) pa_nil))) (by rfl))
      (pss_cons (ps_dput (hu_of hr) (pv 0) (pe_str) (pe_op op_add (pv 4) (pe_int)) rfl)
      (pss_cut (ps_set (i := 5) sc_L_write.nd rfl (.inl rfl) (pe_ifExp (PW.pt (pw_and (pt_cmpR op_eq (pv 5) (pe_str) (nomark _)) (pw_and1 (pt_cmpR op_isN (pe_dget (hu_of hr) (pv 0) (pe_str) (fun _ _ => rfl)) (pe_non) (nomark _))))) (pe_str) (pv 5)))
      (pss_cons (ps_par (i := 6) (j := 7) (by rfl) sc_L_write.nd rfl rfl (by decide) rfl rfl (pa_cons (pv 3) (pa_cons (pe_lst (pa_nil)) pa_nil)) (by rfl))
      (pss_cut (ps_if (PW.pt (pw_and (pt_cmpR op_eq (pv 5) (pe_str) (nomark _)) (pw_and1 (PW.pt (pw_or (pt_cmpR op_isN (pv 3) (pe_non) (nomark _)) (pw_or1 (pt_val (pe_ix (r := rIxT K) ix_tup (pe_ix (r := rIxL K) ix_list (pe_dget (hu_of hr) (pe_dget (hu_of hr) (pv 0) (pe_str) (fun _ _ => rfl)) (pv 3) (fun _ _ => rfl)) (pe_int) (fun _ _ => rfl)) (pe_int) (fun _ _ => rfl))))))))) (pss_one (ps_asg (C8.pe_c (c_L_take T) hr (by decide) rfl (pa_cons (pv 0) pa_nil)) (pg_tup (n := 2) rfl (pgs_cons (pg_name (i := 6) sc_L_write.nd rfl (.inl rfl)) (pgs_cons (pg_name (i := 7) sc_L_write.nd rfl (.inl rfl)) pgs_nil))))) (pss_nil))
      (pss_cons (ps_for PassesOwn.never rfl (pi_tup (pe_ix (r := rIxL K) ix_list (pe_dget (hu_of hr) (pv 0) (pe_str) (fun _ _ => rfl)) (pe_bm PySem.F.plainAttrs_list PySem.F.slot_list_index PySem.F.type_list_index mt_index (pe_lst (pa_cons (pe_str) (pa_cons (pe_str) (pa_cons (pe_str) pa_nil)))) (pa_cons (pv 5) pa_nil)) (fun _ _ => rfl))) (pg_name (i := 8) sc_L_write.nd rfl (.inl rfl)) (pss_one (ps_set (i := 7) sc_L_write.nd rfl (.inl rfl) (pe_op op_cat (pv 7) (C8.pe_c (c_L_word T) hr (by decide) rfl (pa_cons (pv 0) (pa_cons (pv 8) (pa_cons (pv 5) (pa_cons (pe_tup (pa_cons (pv 1) (pa_cons (pv 2) (pa_cons (pv 4) (pa_cons (pe_cmpR op_eq (pv 5) (pe_str) (nomark _)) pa_nil))))) (pa_cons (pe_tup (pa_cons (pv 3) (pa_cons (pv 6) pa_nil))) pa_nil))))))))))
      (pss_cut (ps_if (pt_cmpR op_eq (pv 5) (pe_str) (nomark _)) (pss_cons (ps_set (i := 9) sc_L_write.nd rfl (.inl rfl) (C8.pe_c (c_L_oldest T) hr (by decide) rfl (pa_cons (pv 0) pa_nil)))
      (pss_one (ps_for PassesOwn.never rfl (pi_list (pe_slice sl_list (pv 9) (po_none) (po_some (pe_callB (call_max2 rfl) (by rfl) T.f_max (by decide +kernel) (pa_cons (pe_int) (pa_cons (pe_op op_sub (pe_callB call_len_seq (by rfl) T.f_len (by decide +kernel) (pa_cons (pv 9) pa_nil)) (pe_ix (r := rIxT K) ix_tup (pe_dget (hu_of hr) (pv 0) (pe_str) (fun _ _ => rfl)) (pe_int) (fun _ _ => rfl))) pa_nil)))))) (pg_name (i := 10) sc_L_write.nd rfl (.inl rfl)) (pss_one (ps_set (i := 7) sc_L_write.nd rfl (.inl rfl) (pe_op op_cat (pv 7) (C8.pe_c (c_L_clean T) hr (by decide) rfl (pa_cons (pv 0) (pa_cons (pv 10) pa_nil))))))))) (pss_nil))
      (pss_one (ps_ret (pe_tup (pa_cons (pe_cmpR op_notN (pv 3) (pe_non) (nomark _)) (pa_cons (pv 7) pa_nil))))))))))), ?_⟩
  refine ⟨_, rfl, _, rfl, _, _, rfl, c, ρ, p, m, D, on, n, rfl, rfl, ⟨A, h⟩, wf.uq, fun ρ1 H1 ⟨A1, g1⟩ m1 => ?_⟩
  have hkb : KB nb (begin_ m n).2.kn := KB.begin wf.kb
  have hbl := begin_len (m := m) (b := n)
  have hbt := begin_turn (m := m) (b := n)
  have hown := fun s (z : (begin_ m n).1 = some s) => begin_lt z
  have hownE := fun s (z : (begin_ m n).1 = some s) => begin_at z
  generalize (begin_ m n).1 = own at *
  generalize (begin_ m n).2 = mb at *
  refine ⟨_, rfl, p, _, rfl, g1.g "turn" _ rfl, _, rfl, p, _, rfl, g1.g "rules" _ rfl, A1.r, _, _, _, rfl, rfl, SqT.of g1.rul, rfl, _, _, _, rfl, ?_⟩
  rw [← hbt] at k
  obtain ⟨mt, hmt⟩ : ∃ mt, mt = ({ mb with turn := mb.turn + 1 } : Mem) := ⟨_, rfl⟩
  rw [← hmt] at k
  have hmtk : mt.kn = mb.kn := by rw [hmt]
  obtain ⟨g2, m2⟩ := g1.obj' (mb.turn + 1) mb.begun mb.hits on
  have g2 : ModS c ρ1 (upd H1 p (.dK (modF A1 ⟨mb.kn, mb.turn + 1, mb.begun, mb.hits⟩ on))) p A1 mt D on := by rw [hmt]; exact g2
  have m12 := m1.trans (m2.mono (s1_sm (by decide) (by decide)))
  refine ⟨_, rfl, _, _, rfl, rfl, _, rfl, p, _, rfl, DPut.k (k := .inr "turn") g1.obj (show (11 : Nat) < sizeLine by decide), ?_⟩
  have hkb2 : KB nb mt.kn := by rw [hmtk]; exact hkb
  have hn2 : 1 ≤ mt.kn.length := by rw [hmtk, hbl]; exact wf.n1
  have hown2 : ∀ s, own = some s → s < mt.kn.length := fun s z => by rw [hmtk, hbl]; exact hown s z
  have hfl2 : D.fast.sh.length = mt.kn.length := by rw [hmtk, hbl]; exact hfl
  refine ⟨fun σ' H' => σ' = [some (.ref p), some (.int (n : Int)), some (.int v), some (oV own), some (.int mb.turn), some (.str (wayS c.way)), none, none, none, none, none] ∧ H' = upd H1 p (.dK (modF A1 ⟨mb.kn, mb.turn + 1, mb.begun, mb.hits⟩ on)), ?_, ?_⟩
  · refine ⟨_, rfl, rfl, _, rfl, ?_⟩
    by_cases hw : c.way = .back
    · exact ite_tt (by rw [way_back]; exact decide_eq_true hw) ⟨_, rfl, p, _, rfl, g2.g "fast" _ rfl, rfl, _, rfl, ite_ff (by simp) ⟨_, rfl, rfl, rfl⟩⟩
    · exact ite_ff (by rw [way_back]; exact decide_eq_false hw) ⟨_, rfl, rfl, rfl⟩
  rintro σ2 H2 ⟨rfl, rfl⟩
  generalize upd H1 p (.dK (modF A1 ⟨mb.kn, mb.turn + 1, mb.begun, mb.hits⟩ on)) = H2 at g2 m12 ⊢
  obtain ⟨t1, t2, t3, t4⟩ := taken_ok ok hn2 hkb2 hown2
  generalize htk : taken c mt own = tk at k t1 t2 t3 t4
  refine ⟨_, rfl, (show (0 : Nat) ≤ sizeLine by decide), fun q0 hq0 => ⟨_, _, rfl, ?_⟩⟩
  have w0 : Mv S0 ρ1 H2 _ _ := Mv.refl.new hq0 0 (.lst [])
  have f0 : upd H2 q0 (.lst []) q0 = some (.lst []) := upd_same
  have r0 : rs ρ1 q0 0 q0 = 0 := rs_same
  have g3 := g2.mv0 w0
  have m3 := m12.trans (w0.mono (S' := SM) s0_sp)
  generalize upd H2 q0 (.lst []) = H3 at *
  generalize rs ρ1 q0 0 = ρ3 at *
  refine ⟨fun σ' H' => ∃ (ρ' : Ro) (q : Addr) (ys : List V) (x8 x9 x10 : Option V), σ' = [some (.ref p), some (.int (n : Int)), some (.int v), some (oV own), some (.int mb.turn), some (.str (wayS c.way)), some (oV tk.1), some (.ref q), x8, x9, x10] ∧ ModAt c ρ' H' p tk.2.1 D on ∧ Mv SM ρ H ρ' H' ∧ H' q = some (.lst ys) ∧ ρ' q = 0 ∧ All cS H' tk.2.2 ys, ?_, ?_⟩
  · refine ⟨_, rfl, rfl, _, rfl, ?_⟩
    by_cases hw : c.way = .back
    · refine ite_tt (by rw [way_back]; exact decide_eq_true hw) ⟨_, rfl, rfl, _, rfl, ?_⟩
      have yes : (own.elim true (isDirty mt.kn)) = true → tk = (some (take c mt).1, (take c mt).2.1, (take c mt).2.2) := fun hy => by rw [← htk, taken_yes ⟨hw, hy⟩]
      cases own with
      | none =>
        refine ite_tt (by simp [oV]) (iteT ?_)
        refine ⟨_, rfl, _, rfl, c, ρ3, p, mt, D, on, rfl, ⟨A1, g3⟩, ok, hn2, hfl2, fun ρ4 H4 t4 q4 ys4 g4 m4 ht4 hq4 r4 ha4 => ⟨t4, _, rfl, SqT.of ht4, rfl, _, _, rfl, _, _, rfl, rfl, ?_⟩⟩
        rw [yes rfl]
        exact ⟨ρ4, q4, ys4, _, _, _, rfl, g4, m3.trans m4, hq4, r4, ha4⟩
      | some s =>
        obtain ⟨e, he⟩ := hownE s rfl
        rw [← hmtk] at he
        obtain ⟨hk8, ea, L, hk⟩ := g3.kn
        obtain ⟨rr, t, he1, he2⟩ := hk.ent s e he
        have dg := hk.dget (s := s)
        rw [he] at dg
        have hdd : isDirty mt.kn s = e.r.d := by
          unfold isDirty
          rw [he]
        refine ite_ff (by simp [oV]) ⟨_, rfl, p, _, rfl, g3.g "known" _ rfl, _, rfl, A1.k, _, rfl, dg, ea s, _, _, _, rfl, rfl, SqL.of he1, rfl, t, _, _, _, rfl, rfl, SqT.of he2, rfl, _, rfl, ?_⟩
        rcases Bool.eq_false_or_eq_true e.r.d with hd | hd
        · refine ite_tt hd ?_
          refine ⟨_, rfl, _, rfl, c, ρ3, p, mt, D, on, rfl, ⟨A1, g3⟩, ok, hn2, hfl2, fun ρ4 H4 t4 q4 ys4 g4 m4 ht4 hq4 r4 ha4 => ⟨t4, _, rfl, SqT.of ht4, rfl, _, _, rfl, _, _, rfl, rfl, ?_⟩⟩
          rw [yes (hdd.trans hd)]
          exact ⟨ρ4, q4, ys4, _, _, _, rfl, g4, m3.trans m4, hq4, r4, ha4⟩
        · have no : taken c mt (some s) = (some s, mt, []) := taken_no (fun z => by have z2 : isDirty mt.kn s = true := z.2; rw [hdd, hd] at z2; cases z2)
          refine ite_ff hd ?_
          rw [← htk, no]
          exact ⟨ρ3, q0, [], none, none, none, rfl, ⟨A1, g3⟩, m3, f0, r0, .nil⟩
    · refine ite_ff (by rw [way_back]; exact decide_eq_false hw) (iteF ?_)
      rw [← htk, taken_no (fun z => hw z.1)]
      exact ⟨ρ3, q0, [], none, none, none, rfl, ⟨A1, g3⟩, m3, f0, r0, .nil⟩
  · rintro σ4 H4 ⟨ρ4, q4, ys4, x8, x9, x10, rfl, ⟨A4, g4⟩, m4, hq4, r4, ha4⟩
    obtain ⟨rl, rmk⟩ := rcp_at c ok c.way
    have hrb : (⟨n, v, mb.turn, decide (c.way = .back)⟩ : Rec).b < nb := hn
    generalize hrc : (⟨n, v, mb.turn, decide (c.way = .back)⟩ : Rec) = rc at k hrb
    obtain ⟨z1, z2, z3⟩ := words_ok (y := c.way) (own := own) (tk := tk.1) hrb (c.rcp c.way) tk.2.1 t2
    obtain ⟨vso, hvo, hrcp⟩ := g4.ord
    obtain ⟨tc, hvc, htc⟩ := hrcp.at (i := wayN c.way) (by cases c.way <;> decide)
    rw [rcpN_way] at htc
    obtain ⟨zi, zi1, zi2, zi3⟩ := way_ix c.way
    have hy4 := ha4.len
    refine ⟨_, rfl, p, _, rfl, g4.g "recipes" _ rfl, (show (3 : Nat) ≤ sizeLine by decide), fun ql hql => ⟨.inl ⟨rfl, _, SqL.of upd_same⟩, _, rfl, ql, _, _, wayN c.way, zi, rfl, rfl, SqL.of upd_same, rfl, rfl, zi1, zi2, zi3, ?_⟩⟩
    have w5 : Mv S0 ρ4 H4 _ _ := Mv.refl.new hql 0 (.lst [.str "through", .str "back", .str "around"])
    have g5 := g4.mv0 w5
    have m5 := m4.trans (w5.mono (S' := SM) s0_sp)
    have hq5 := w5.at0 hq4
    have r5 := w5.ro hq4 r4
    have ha5 := ha4.mono w5.tups
    have hvo5 := w5.at0 hvo
    have htc5 := w5.tups _ _ htc
    generalize upd H4 ql (.lst [.str "through", .str "back", .str "around"]) = H5 at *
    generalize rs ρ4 ql 0 = ρ5 at *
    refine ⟨A4.o, _, _, _, rfl, rfl, SqL.of hvo5, atI_nat hvc, tc, rfl, ⟨_, SqT.of htc5⟩, ?_⟩
    refine for_it (walk_tup (xs := wdV (c.rcp c.way))) (fun i σ H' => ∃ (x8 x9 x10 : Option V) (ρ' : Ro) (q : Addr) (ys : List V), σ = [some (.ref p), some (.int (n : Int)), some (.int v), some (oV own), some (.int mb.turn), some (.str (wayS c.way)), some (oV tk.1), some (.ref q), x8, x9, x10] ∧ Mv SM ρ5 H5 ρ' H' ∧ ModAt c ρ' H' p (words c.way rc own tk.1 ((c.rcp c.way).take i) tk.2.1).1 D on ∧ H' q = some (.lst ys) ∧ ρ' q = 0 ∧ All cS H' (tk.2.2 ++ (words c.way rc own tk.1 ((c.rcp c.way).take i) tk.2.1).2) ys)
      ⟨_, _, _, ρ5, q4, ys4, rfl, Mv.refl, ⟨A4, g5⟩, hq5, r5, by rw [List.take_zero]; show All cS H5 (tk.2.2 ++ []) ys4; rw [List.append_nil]; exact ha5⟩ (fun i σ H' _ ⟨_, _, _, _, _, _, _, mm, _⟩ => SqT.of (mm.tups _ _ htc5)) (fun i x σ Hz H6 hi ⟨y8, y9, y10, ρ6, q6, ys6, e0, m6, g6, hq6, r6, ha6⟩ y => ?_) (fun σ H6 ⟨y8, y9, y10, ρ6, q6, ys6, e0, m6, ⟨A6, g6⟩, hq6, r6, ha6⟩ => ?_)
    · obtain ⟨rfl, hx⟩ := y
      subst e0
      obtain ⟨wd, hwd, rfl⟩ := wdV_at hx
      have hil := (List.getElem?_eq_some_iff.mp hwd).1
      obtain ⟨A6, gg6⟩ := g6
      obtain ⟨y1, y2, y3⟩ := words_ok (y := c.way) (own := own) (tk := tk.1) hrb ((c.rcp c.way).take i) tk.2.1 t2
      rw [List.length_take] at y3
      obtain ⟨_, _, u3⟩ := word_ok (wd := wd) (y := c.way) (own := own) (tk := tk.1) y2 hrb
      have hy6 := ha6.len
      rw [List.length_append] at hy6
      refine ⟨_, rfl, _, rfl, _, rfl, _, rfl, _, rfl, _, rfl, _, rfl, _, rfl, rfl, (show (4 : Nat) ≤ sizeLine by decide), fun ta hta => ⟨_, rfl, _, rfl, (show (2 : Nat) ≤ sizeLine by decide), fun tb htb => ?_⟩⟩
      have w7 : Mv S0 ρ6 H6 _ _ := (Mv.refl.new hta 0 (.tup [.int (n : Int), .int v, .int mb.turn, .bl (decide (V.str (wayS c.way) = V.str "back"))])).new htb 0 (.tup [oV own, oV tk.1])
      have fa : upd H6 ta (.tup [.int (n : Int), .int v, .int mb.turn, .bl (decide (V.str (wayS c.way) = V.str "back"))]) ta = some (.tup (recV rc)) := by
        rw [upd_same, ← hrc, way_back]
        rfl
      have fa' := (upd_ne (o := .tup [oV own, oV tk.1]) (ne_of_none fa htb)).trans fa
      refine ⟨_, _, _, _, _, rfl, c, _, p, ta, tb, _, D, on, wd, c.way, rc, own, tk.1, rfl, rfl, rfl, rfl, fa', rfl, upd_same, ⟨A6, gg6.mv0 w7⟩, rmk wd (List.mem_of_getElem? hwd), fun s hs => by rw [y1, t1]; exact t4 s hs, fun ρ8 H8 q8 ys8 g8 m8 hq8 r8 ha8 => ?_⟩
      have m78 := (w7.mono (S' := SM) s0_sp).trans m8
      have hy8 := ha8.len
      refine ⟨q6, q8, _, _, rfl, rfl, m78.keeps hq6 r6 sm0, hq8, Nat.le_trans (show ys6.length + ys8.length ≤ 100 by omega) (by decide), fun qn hqn => ?_⟩
      have w9 : Mv S0 ρ8 H8 _ _ := Mv.refl.new hqn 0 (.lst (ys6 ++ ys8))
      refine ⟨_, _, _, _, qn, ys6 ++ ys8, rfl, (m6.trans m78).trans (w9.mono s0_sp), ?_, upd_same, rs_same, ?_⟩
      · have et : (c.rcp c.way).take (i + 1) = (c.rcp c.way).take i ++ [wd] := by
          rw [List.take_succ, hwd]
          rfl
        rw [et, words_snoc]
        exact g8.mv0 w9
      · have et : (c.rcp c.way).take (i + 1) = (c.rcp c.way).take i ++ [wd] := by
          rw [List.take_succ, hwd]
          rfl
        rw [et, words_snoc, ← List.append_assoc]
        exact all_app ((ha6.mono m78.tups).mono w9.tups) (ha8.mono w9.tups)
    · subst e0
      have et : (c.rcp c.way).take (wdV (c.rcp c.way)).length = c.rcp c.way := by
        rw [wdV_len, List.take_length]
      rw [et] at g6 ha6
      generalize hz : words c.way rc own tk.1 (c.rcp c.way) tk.2.1 = z at k z1 z2 z3 g6 ha6
      have hrl := rl
      refine ⟨fun σ' H' => ∃ (x8 x9 x10 : Option V) (ρ' : Ro) (q : Addr) (ys : List V), σ' = [some (.ref p), some (.int (n : Int)), some (.int v), some (oV own), some (.int mb.turn), some (.str (wayS c.way)), some (oV tk.1), some (.ref q), x8, x9, x10] ∧ Mv SM ρ5 H5 ρ' H' ∧ ModAt c ρ' H' p (if c.way = .back then cleanL c (over c z.1.kn) z.1 else (z.1, [])).1 D on ∧ H' q = some (.lst ys) ∧ ρ' q = 0 ∧ All cS H' (tk.2.2 ++ (z.2 ++ (if c.way = .back then cleanL c (over c z.1.kn) z.1 else (z.1, [])).2)) ys ∧ ys.length ≤ 100, ?_, ?_⟩
      · refine ⟨_, rfl, rfl, _, rfl, ?_⟩
        have hy6 := ha6.len
        rw [List.length_append] at hy6
        by_cases hw : c.way = .back
        · refine ite_tt (by rw [way_back]; exact decide_eq_true hw) ?_
          rw [if_pos hw]
          refine ⟨_, rfl, _, rfl, c, ρ6, p, z.1, D, on, rfl, ⟨A6, g6⟩, fun ρ7 H7 qo m7 ro hqo => ?_⟩
          have g7 := g6.mv0 m7
          have hq7 := m7.at0 hq6
          have r7 := m7.ro hq6 r6
          have ha7 := ha6.mono m7.tups
          refine ⟨_, rfl, _, rfl, _, _, rfl, .inl (SqL.of hqo), _, rfl, p, _, rfl, g7.g "rules" _ rfl, A6.r, _, _, _, rfl, rfl, SqT.of g7.rul, rfl, _, _, rfl, rfl, _, _, rfl, _, rfl, qo, _, rfl, SqL.of hqo, fun q2 hq2 => ?_⟩
          generalize hzs : cutV (natV ((oldest z.1.kn).map (·.2))) none _ = zs
          have hz2 : zs = natV (over c z.1.kn) := by
            rw [← hzs, cut_take _ _ c.bound rfl]
            unfold natV over
            rw [List.length_map, List.length_map, ← List.map_take, ← List.map_take]
          subst hz2
          clear hzs
          have m8 := m7.new hq2 0 (.lst (natV (over c z.1.kn)))
          have w8 : Mv S0 ρ7 H7 _ _ := Mv.refl.new hq2 0 (.lst (natV (over c z.1.kn)))
          have g8 := g7.mv0 w8
          have hq8 := w8.at0 hq7
          have r8 := w8.ro hq7 r7
          have ha8 := ha7.mono w8.tups
          have hq22 : upd H7 q2 (.lst (natV (over c z.1.kn))) q2 = some (.lst (natV (over c z.1.kn))) := upd_same
          have r2 : rs ρ7 q2 0 q2 = 0 := rs_same
          generalize upd H7 q2 (.lst (natV (over c z.1.kn))) = H8 at *
          generalize rs ρ7 q2 0 = ρ8 at *
          have hol := dirt_le z.1.kn
          have hkl := g6.kn.1
          have hovl : (over c z.1.kn).length ≤ 8 := by
            unfold over
            rw [List.length_map, List.length_take]
            omega
          refine ⟨q2, rfl, ⟨_, SqL.of hq22⟩, ?_⟩
          refine for_it (walk_list (xs := natV (over c z.1.kn))) (fun i σ H' => ∃ (x8 x9 x10 : Option V) (ρ' : Ro) (q : Addr) (ys : List V), σ = [some (.ref p), some (.int (n : Int)), some (.int v), some (oV own), some (.int mb.turn), some (.str (wayS c.way)), some (oV tk.1), some (.ref q), x8, x9, x10] ∧ Mv SM ρ8 H8 ρ' H' ∧ ModAt c ρ' H' p (cleanL c ((over c z.1.kn).take i) z.1).1 D on ∧ H' q = some (.lst ys) ∧ ρ' q = 0 ∧ All cS H' ((tk.2.2 ++ z.2) ++ (cleanL c ((over c z.1.kn).take i) z.1).2) ys)
            ⟨_, _, _, ρ8, q6, ys6, rfl, Mv.refl, ⟨A6, g8⟩, hq8, r8, by rw [List.take_zero]; show All cS H8 ((tk.2.2 ++ z.2) ++ []) ys6; rw [List.append_nil]; exact ha8⟩ (fun i σ H' _ ⟨_, _, _, _, _, _, _, mm, _⟩ => SqL.of (mm.keeps hq22 r2 sm0)) (fun i x σ Hz H9 hi ⟨u8, u9, u10, ρ9, q9, ys9, e0, m9, g9, hq9, r9, ha9⟩ y => ?_) (fun σ H9 ⟨u8, u9, u10, ρ9, q9, ys9, e0, m9, g9, hq9, r9, ha9⟩ => ?_)
          · obtain ⟨rfl, hx⟩ := y
            subst e0
            unfold natV at hx hi
            rw [List.length_map] at hi
            rw [List.getElem?_map] at hx
            have hov : (over c z.1.kn)[i]? = some (over c z.1.kn)[i] := List.getElem?_eq_getElem hi
            generalize (over c z.1.kn)[i] = so at hov
            rw [hov] at hx
            cases hx
            obtain ⟨e, he⟩ : ∃ e, Kn.at z.1.kn so = some e := by
              have hm := List.mem_of_getElem? hov
              unfold over at hm
              obtain ⟨pr, hpr, rfl⟩ := List.mem_map.mp hm
              obtain ⟨e, he, _⟩ := oldest_in (List.mem_of_mem_take hpr)
              exact ⟨e, he⟩
            obtain ⟨e', he', _⟩ := cleanL_dom (c := c) ((over c z.1.kn).take i) z.1 he
            have st := cleanL_steps ok ((over c z.1.kn).take i) z.1
            rw [List.length_take] at st
            have hy9 := ha9.len
            rw [List.length_append, List.length_append] at hy9
            have cs := clean_steps ok (m := (cleanL c ((over c z.1.kn).take i) z.1).1) (s := so)
            refine ⟨_, rfl, _, rfl, _, rfl, _, _, rfl, c, ρ9, p, _, D, on, so, e', rfl, rfl, g9, ok, he', fun ρa Ha qa ysa ga ma hqa ra haa => ?_⟩
            have hya := haa.len
            refine ⟨q9, qa, _, _, rfl, rfl, ma.keeps hq9 r9 sm0, hqa, Nat.le_trans (show ys9.length + ysa.length ≤ 200 by omega) (by decide), fun qn hqn => ?_⟩
            have wn : Mv S0 ρa Ha _ _ := Mv.refl.new hqn 0 (.lst (ys9 ++ ysa))
            have et : (over c z.1.kn).take (i + 1) = (over c z.1.kn).take i ++ [so] := by
              rw [List.take_succ, hov]
              rfl
            refine ⟨_, _, _, _, qn, ys9 ++ ysa, rfl, (m9.trans ma).trans (wn.mono s0_sp), ?_, upd_same, rs_same, ?_⟩
            · rw [et, cleanL_snoc]
              exact ga.mv0 wn
            · rw [et, cleanL_snoc, ← List.append_assoc]
              exact all_app ((ha9.mono ma.tups).mono wn.tups) (haa.mono wn.tups)
          · subst e0
            have et : (over c z.1.kn).take (natV (over c z.1.kn)).length = over c z.1.kn := by
              unfold natV
              rw [List.length_map, List.take_length]
            rw [et] at g9 ha9
            rw [List.append_assoc] at ha9
            have st := cleanL_steps ok (over c z.1.kn) z.1
            have hy9 := ha9.len
            rw [List.length_append, List.length_append] at hy9
            exact ⟨_, _, _, ρ9, q9, ys9, rfl, m6.trans ((m8.mono s0_sp).trans m9), g9, hq9, r9, ha9, by omega⟩
        · refine ite_ff (by rw [way_back]; exact decide_eq_false hw) ?_
          rw [if_neg hw]
          refine ⟨_, _, _, ρ6, q6, ys6, rfl, m6, ⟨A6, g6⟩, hq6, r6, ?_, by omega⟩
          show All cS H6 (tk.2.2 ++ (z.2 ++ [])) ys6
          rw [List.append_nil]
          exact ha6
      · rintro σ7 H7 ⟨u8, u9, u10, ρ7, q7, ys7, rfl, m7, ⟨A7, g7⟩, hq7, r7, ha7, hl7⟩
        generalize (if c.way = .back then cleanL c (over c z.1.kn) z.1 else (z.1, [])) = yy at *
        refine ⟨_, rfl, rfl, _, rfl, (show (2 : Nat) ≤ sizeLine by decide), fun t ht => ?_⟩
        have w8 : Mv S0 ρ7 H7 _ _ := Mv.refl.new ht 0 (.tup [.bl (!decide (oV own = V.non)), .ref q7])
        refine k _ _ t q7 ys7 ⟨A7, g7.mv0 w8⟩ ((m5.trans m7).trans (w8.mono s0_sp)) ?_ (w8.at0 hq7) (w8.ro hq7 r7) (ha7.mono w8.tups) hl7
        rw [upd_same, oV_isSome]
end
end Kb
set_option Elab.async false
set_option linter.all false
set_option maxRecDepth 100000
set_option maxHeartbeats 4000000
namespace Kb
open PySem PySem.Spec PyProof.Rows L2
/-- the law's disk: its list and lists while they change -/
structure MW {α : Type} (c : Cell α) (r : Nat) (ρ0 : Ro) (H0 : Hp) (ρ : Ro) (H : Hp) (d : Addr) (A : DkL) (D : Dk α) : Prop where
  hd : H d = some (.lst [.ref A.a1, .ref A.a2, .ref A.a3, .ref A.a4])
  rd : ρ d = r
  g : DkAt c r ρ H A D
  m : Mv (SD r) ρ0 H0 ρ H
section
variable {α : Type} {c : Cell α} {r : Nat} {ρ0 ρ : Ro} {H0 H : Hp} {d : Addr} {A : DkL} {D : Dk α}
theorem MW.new (h : MW c r ρ0 H0 ρ H d A D) {q : Addr} (hq : H q = none) (k : Nat) (o : HO) : MW c r ρ0 H0 (rs ρ q k) (upd H q o) d A D :=
  ⟨(upd_ne (ne_of_none h.hd hq)).trans h.hd, (rs_ne (ne_of_none h.hd hq)).trans h.rd, h.g.mv0 (Mv.refl.new hq k o), h.m.new hq k o⟩
theorem MW.tal (h : MW c r ρ0 H0 ρ H d A D) (a b e : Int) : MW c r ρ0 H0 ρ (upd H A.a4 (.lst [.int a, .int b, .int e])) d A { D with tr := a, tw := b, ts := e } :=
  ⟨(upd_ne (ro_ne h.rd h.g.r4 (by omega))).trans h.hd, h.rd, h.g.tal a b e, h.m.wr h.g.ta (fun xs z => by cases z) (.inr (by rw [h.g.r4]; exact sd r (by decide))) _⟩
theorem MW.put (h : MW c r ρ0 H0 ρ H d A D) {vs : List V} (hv : H A.a1 = some (.lst vs)) (i : Nat) {x : α} {v : V} (hx : c.R H x v) : MW c r ρ0 H0 ρ (upd H A.a1 (.lst (vs.set i v))) d A { D with sh := D.sh.set i x } :=
  ⟨(upd_ne (ro_ne h.rd h.g.r1 (by omega))).trans h.hd, h.rd, h.g.put hv i hx, h.m.wr hv (fun xs z => by cases z) (.inr (by rw [h.g.r1]; exact sd r (by decide))) _⟩
theorem MW.app (h : MW c r ρ0 H0 ρ H d A D) {vs : List V} (hv : H A.a3 = some (.lst vs)) {i : Nat} {x : α} {v : V} {t : Addr} (ht : H t = some (.tup [.int (i : Nat), v])) (hx : c.R H x v) : MW c r ρ0 H0 ρ (upd H A.a3 (.lst (vs ++ [.ref t]))) d A { D with wt := D.wt ++ [(i, x)] } :=
  ⟨(upd_ne (ro_ne h.rd h.g.r3 (by omega))).trans h.hd, h.rd, h.g.app hv ht hx, h.m.wr hv (fun xs z => by cases z) (.inr (by rw [h.g.r3]; exact sd r (by decide))) _⟩
/-- another list stands for a part -/
theorem MW.obj {A' : DkL} {D' : Dk α} (h : MW c r ρ0 H0 ρ H d A D) (g : DkAt c r ρ H A' D') : MW c r ρ0 H0 ρ (upd H d (.lst [.ref A'.a1, .ref A'.a2, .ref A'.a3, .ref A'.a4])) d A' D' :=
  ⟨upd_same, h.rd, g.own h.rd h.hd (fun xs z => by cases z) _, h.m.wr h.hd (fun xs z => by cases z) (.inr (by rw [h.rd]; exact sd r (i := 0) (by decide))) _⟩
theorem MW.at_ (h : MW c r ρ0 H0 ρ H d A D) : MDkAt c r ρ H d D := ⟨A, h.hd, h.rd, h.g⟩
theorem MDkAt.mw (h : MDkAt c r ρ H d D) : ∃ A, MW c r ρ H ρ H d A D := let ⟨A, h1, h2, h3⟩ := h; ⟨A, h1, h2, h3, Mv.refl⟩
end
section
variable {P : Program} {w : World} {K : PySem.W.Frag} {mg : Str → Option Value} {base : Heap}
def sp_Lsync : Sp := Sp1 fun a H Q => ∃ (α : Type) (c : Cell α) (r : Nat) (ρ : Ro) (d : Addr) (D : Dk α), a = .ref d ∧ MDkAt c r ρ H d D ∧
  ∀ (ρ' : Ro) (H' : Hp), MDkAt c r ρ' H' d D.sync → Mv (SD r) ρ H ρ' H' → Q .non H'
theorem sc_L_sync : FnScope ["_law_disk_here"] ["_law_disk_here"] (defScope s_L_sync) := ⟨rfl, rfl, rfl, by decide +kernel, rfl, by decide +kernel, by decide +kernel⟩
theorem c_L_sync (T : Txt K mg) : C8.Cal P w K mg base 1 "_law_sync" (sp_Lsync) [] := by
  refine cal_of T.F_L_sync T.g_Lsync sc_L_sync len1 (fun _ _ _ _ _ _ us hl => match us, hl with | [_], _ => rfl) (fun cdv A outer s H vs Q E hr h => ?_)
  obtain ⟨a, rfl, α, c, r, ρ, d, D, rfl, h, k⟩ := h
  obtain ⟨A, w0⟩ := h.mw
  obtain ⟨vs, h1, q1⟩ := w0.g.sh
  refine ⟨_, pss_cons (ps_asg (pe_callTy call_list_of (by rfl) T.f_list (by decide +kernel) (pa_cons (pe_ix (r := rIxL K) ix_list (pv 0) (pe_int) (fun _ _ => rfl)) pa_nil)) (pg_sub (pv 0) (pe_int) set_list))
      (pss_cons (ps_asg (pe_lst (pa_nil)) (pg_sub (pv 0) (pe_int) set_list))
      (pss_one (ps_asg (pe_op op_add (pe_ix (r := rIxL K) ix_list (pe_ix (r := rIxL K) ix_list (pv 0) (pe_int) (fun _ _ => rfl)) (pe_int) (fun _ _ => rfl)) (pe_int)) (pg_sub (pe_ix (r := rIxL K) ix_list (pv 0) (pe_int) (fun _ _ => rfl)) (pe_int) set_list)))), ?_⟩
  refine ⟨_, rfl, d, _, _, _, rfl, rfl, SqL.of w0.hd, rfl, A.a1, vs, rfl, .inl (SqL.of h1), fun q hq => ?_⟩
  have w2 := w0.new hq (r + 2) (.lst vs)
  refine ⟨_, rfl, d, _, _, 1, rfl, rfl, w2.hd, rfl, ?_⟩
  have g2 := w2.g.new2 upd_same rs_same (q1.mono w2.m.tups)
  have w3 := w2.obj g2
  refine ⟨(show (0 : Nat) ≤ sizeLine by decide), fun q2 hq2 => ?_⟩
  have w4 := w3.new hq2 (r + 3) (.lst [])
  refine ⟨_, rfl, d, _, _, 2, rfl, rfl, w4.hd, rfl, ?_⟩
  have g4 := w4.g.new3 upd_same rs_same
  have w5 := w4.obj g4
  refine ⟨_, rfl, d, _, _, _, rfl, rfl, SqL.of w5.hd, rfl, A.a4, _, _, _, rfl, rfl, SqL.of w5.g.ta, rfl, _, _, rfl, rfl, _, rfl, d, _, _, _, rfl, rfl, SqL.of w5.hd, rfl, A.a4, _, _, 2, rfl, rfl, w5.g.ta, rfl, ?_⟩
  have w6 := w5.tal D.tr D.tw (D.ts + 1)
  exact k _ _ w6.at_ w6.m
def sp_Lput : Sp := Sp3 fun a b e H Q => ∃ (α : Type) (c : Cell α) (r : Nat) (ρ : Ro) (d : Addr) (D : Dk α) (i : Nat) (x : α), a = .ref d ∧ b = .int (i : Int) ∧ MDkAt c r ρ H d D ∧ i < D.sh.length ∧ c.R H x e ∧ D.wt.length < 1000000 ∧
  ∀ (ρ' : Ro) (H' : Hp), MDkAt c r ρ' H' d (D.write i x) → Mv (SD r) ρ H ρ' H' → Q .non H'
theorem sc_L_put : FnScope ["_law_disk_here", "_law_cell", "_law_what"] ["_law_disk_here", "_law_cell", "_law_what"] (defScope s_L_put) := ⟨rfl, rfl, rfl, by decide +kernel, rfl, by decide +kernel, by decide +kernel⟩
theorem c_L_put (T : Txt K mg) : C8.Cal P w K mg base 1 "_law_put" (sp_Lput) [] := by
  refine cal_of T.F_L_put T.g_Lput sc_L_put len3 (fun _ _ _ _ _ _ us hl => match us, hl with | [_, _, _], _ => rfl) (fun cdv A outer s H vs Q E hr h => ?_)
  obtain ⟨a, b, e, rfl, α, c, r, ρ, d, D, i, x, rfl, rfl, h, hx, he, hw, k⟩ := h
  obtain ⟨A, w0⟩ := h.mw
  obtain ⟨vs, h1, q1⟩ := w0.g.sh
  have hl := q1.len
  have w2 := w0.put h1 i he
  obtain ⟨ws, h3, q3⟩ := w2.g.wt
  have hl3 : D.wt.length = ws.length := q3.len
  refine ⟨_, pss_cons (ps_asg (pv 2) (pg_sub (pe_ix (r := rIxL K) ix_list (pv 0) (pe_int) (fun _ _ => rfl)) (pv 1) set_list))
      (pss_cons (ps_expr (pe_bm PySem.F.plainAttrs_list PySem.F.slot_list_append PySem.F.type_list_append mt_append (pe_ix (r := rIxL K) ix_list (pv 0) (pe_int) (fun _ _ => rfl)) (pa_cons (pe_tup (pa_cons (pv 1) (pa_cons (pv 2) pa_nil))) pa_nil)))
      (pss_one (ps_asg (pe_op op_add (pe_ix (r := rIxL K) ix_list (pe_ix (r := rIxL K) ix_list (pv 0) (pe_int) (fun _ _ => rfl)) (pe_int) (fun _ _ => rfl)) (pe_int)) (pg_sub (pe_ix (r := rIxL K) ix_list (pv 0) (pe_int) (fun _ _ => rfl)) (pe_int) set_list)))), ?_⟩
  refine ⟨_, rfl, _, rfl, d, _, _, _, rfl, rfl, SqL.of w0.hd, rfl, _, rfl, A.a1, vs, _, i, rfl, rfl, h1, ixn (by omega), ?_⟩
  refine ⟨_, rfl, d, _, _, _, rfl, rfl, SqL.of w2.hd, rfl, .inl ⟨rfl, _, SqL.of h3⟩, _, rfl, _, rfl, (show (2 : Nat) ≤ sizeLine by decide), fun t ht => ?_⟩
  have w3 := w2.new ht 0 (.tup [.int (i : Int), e])
  have h3' := (upd_ne (o := HO.tup [.int (i : Int), e]) (ne_of_none h3 ht)).trans h3
  have w4 := w3.app h3' upd_same (c.mono w3.m.tups he)
  refine ⟨_, _, _, rfl, rfl, h3', by unfold sizeLine; omega, ?_⟩
  refine ⟨_, rfl, d, _, _, _, rfl, rfl, SqL.of w4.hd, rfl, A.a4, _, _, _, rfl, rfl, SqL.of w4.g.ta, rfl, _, _, rfl, rfl, _, rfl, d, _, _, _, rfl, rfl, SqL.of w4.hd, rfl, A.a4, _, _, 1, rfl, rfl, w4.g.ta, rfl, ?_⟩
  have w6 := w4.tal D.tr (D.tw + 1) D.ts
  exact k _ _ w6.at_ w6.m
/-- with nothing kept -/
def sp_Lfail : Sp := Sp2 fun a b H Q => ∃ (α : Type) (c : Cell α) (r : Nat) (ρ : Ro) (d t : Addr) (D : Dk α), a = .ref d ∧ b = .ref t ∧ H t = some (.tup []) ∧ MDkAt c r ρ H d D ∧
  ∀ (ρ' : Ro) (H' : Hp), MDkAt c r ρ' H' d D.fail0 → Mv (SD r) ρ H ρ' H' → Q .non H'
theorem sc_L_fail : FnScope ["_law_disk_here", "_law_kept", "_law_number", "_law_cell", "_law_what"] ["_law_disk_here", "_law_kept"] (defScope s_L_fail) := ⟨rfl, rfl, rfl, by decide +kernel, rfl, by decide +kernel, by decide +kernel⟩
theorem c_L_fail (T : Txt K mg) : C8.Cal P w K mg base 1 "_law_fail" (sp_Lfail) [] := by
  refine cal_of T.F_L_fail T.g_Lfail sc_L_fail len2 (fun _ _ _ _ _ _ us hl => match us, hl with | [_, _], _ => rfl) (fun cdv A outer s H vs Q E hr h => ?_)
  obtain ⟨a, b, rfl, α, c, r, ρ, d, t, D, rfl, rfl, ht, h, k⟩ := h
  obtain ⟨A, w0⟩ := h.mw
  obtain ⟨vs, h2, q2⟩ := w0.g.sy
  refine ⟨_, pss_cons (ps_for PassesOwn.never rfl (pi_tup (pv 1)) (pg_name (i := 2) sc_L_fail.nd rfl (.inl rfl)) (pss_cons (ps_asg (pe_ix (r := rIxL K) ix_list (pe_ix (r := rIxL K) ix_list (pv 0) (pe_int) (fun _ _ => rfl)) (pv 2) (fun _ _ => rfl)) (pg_tup (n := 2) rfl (pgs_cons (pg_name (i := 3) sc_L_fail.nd rfl (.inl rfl)) (pgs_cons (pg_name (i := 4) sc_L_fail.nd rfl (.inl rfl)) pgs_nil))))
      (pss_one (ps_asg (pv 4) (pg_sub (pe_ix (r := rIxL K) ix_list (pv 0) (pe_int) (fun _ _ => rfl)) (pv 3) set_list)))))
      (pss_cons (ps_asg (pe_callTy call_list_of (by rfl) T.f_list (by decide +kernel) (pa_cons (pe_ix (r := rIxL K) ix_list (pv 0) (pe_int) (fun _ _ => rfl)) pa_nil)) (pg_sub (pv 0) (pe_int) set_list))
      (pss_one (ps_asg (pe_lst (pa_nil)) (pg_sub (pv 0) (pe_int) set_list)))), ?_⟩
  refine ⟨_, rfl, t, rfl, ⟨[], SqT.of ht⟩, ?_⟩
  refine for_it (walk_tup (xs := [])) (fun _ σ H' => σ = [some (.ref d), some (.ref t), none, none, none] ∧ H' = H) ⟨rfl, rfl⟩ (fun i σ H' _ ⟨_, e⟩ => by rw [e]; exact SqT.of ht) (fun i x σ H' H'' hi => absurd hi (Nat.not_lt_zero _)) fun σ H' ⟨e1, e2⟩ => ?_
  subst e1
  subst e2
  refine ⟨_, rfl, d, _, _, _, rfl, rfl, SqL.of w0.hd, rfl, A.a2, vs, rfl, .inl (SqL.of h2), fun q hq => ?_⟩
  have w2 := w0.new hq (r + 1) (.lst vs)
  refine ⟨_, rfl, d, _, _, 0, rfl, rfl, w2.hd, rfl, ?_⟩
  have g2 := w2.g.new1 (l := D.sy) upd_same rs_same (q2.mono w2.m.tups)
  have w3 := w2.obj g2
  refine ⟨(show (0 : Nat) ≤ sizeLine by decide), fun q2 hq2 => ?_⟩
  have w4 := w3.new hq2 (r + 3) (.lst [])
  refine ⟨_, rfl, d, _, _, 2, rfl, rfl, w4.hd, rfl, ?_⟩
  have g4 := w4.g.new3 upd_same rs_same
  have w5 := w4.obj g4
  exact k _ _ w5.at_ w5.m
end
end Kb
set_option Elab.async false
set_option linter.all false
set_option maxRecDepth 100000
set_option maxHeartbeats 4000000
namespace Kb
open PySem PySem.Spec PyProof.Rows L2
/-! ### a request -/
inductive Rq where
  | rd (b : Nat)
  | wr (b : Nat) (v : Nat)
def Rq.b : Rq → Nat
  | .rd b => b
  | .wr b _ => b
def Rq.Ok (nb : Nat) : Rq → Prop
  | .rd b => b < nb
  | .wr b v => b < nb ∧ v ≤ 999
theorem Rq.Ok.b {nb : Nat} {rq : Rq} (h : rq.Ok nb) : rq.b < nb := by
  cases rq with
  | rd b => exact h
  | wr b v => exact h.1
def reqV : Rq → List V
  | .rd b => [.str "read", .int (b : Int)]
  | .wr b v => [.str "write", .int (b : Int), .int (v : Int)]
def dueV (c : Cfg) (m : Mem) (D : Ds) : Rq → V
  | .rd b => .int (read c m b (svAt D b)).1
  | .wr b v => .bl (write c m b (v : Int)).1
def planM (c : Cfg) (m : Mem) (D : Ds) : Rq → Mem
  | .rd b => (read c m b (svAt D b)).2.1
  | .wr b v => (write c m b (v : Int)).2.1
def planS (c : Cfg) (m : Mem) (D : Ds) : Rq → List Stp
  | .rd b => (read c m b (svAt D b)).2.2
  | .wr b v => (write c m b (v : Int)).2.2
section
variable {P : Program} {w : World} {K : PySem.W.Frag} {mg : Str → Option Value} {base : Heap}
def sp_Lplan : Sp := Sp2 fun a b H Q => ∃ (c : Cfg) (ρ : Ro) (p t : Addr) (m : Mem) (D : Ds) (on : Bool) (nb : Nat) (rq : Rq), a = .ref p ∧ b = .ref t ∧ H t = some (.tup (reqV rq)) ∧ ModAt c ρ H p m D on ∧ OkC c ∧ WF nb m D ∧ D.fast.sh.length = m.kn.length ∧ D.slow.sh.length = nb ∧ rq.Ok nb ∧
  ∀ (ρ' : Ro) (H' : Hp) (t q : Addr) (ys : List V), ModAt c ρ' H' p (planM c m D rq) D on → Mv SM ρ H ρ' H' → H' t = some (.tup [dueV c m D rq, .ref q]) → H' q = some (.lst ys) → ρ' q = 0 → All cS H' (planS c m D rq) ys → ys.length ≤ 100 → Q (.ref t) H'
theorem sc_L_plan : FnScope ["_law_m", "_law_request_here"] ["_law_m", "_law_request_here"] (defScope s_L_plan) := ⟨rfl, rfl, rfl, by decide +kernel, rfl, by decide +kernel, by decide +kernel⟩
theorem c_L_plan (T : Txt K mg) : C8.Cal P w K mg base 4 "_law_plan" (sp_Lplan) [] := by
  refine cal_of T.F_L_plan T.g_Lplan sc_L_plan len2 (fun _ _ _ _ _ _ us hl => match us, hl with | [_, _], _ => rfl) (fun cdv A outer s H vs Q E hr h => ?_)
  obtain ⟨a, b, rfl, c, ρ, p, t, m, D, on, nb, rq, rfl, rfl, ht, g, ok, wf, hfl, hsl, hq, k⟩ := h
  refine ⟨_, pss_one (ps_ret (pe_ifExp (pt_cmpR op_eq (pe_ix (r := rIxT K) ix_tup (pv 1) (pe_int) (fun _ _ => rfl)) (pe_str) (nomark _)) (C8.pe_c (c_L_read T) hr (by decide) rfl (pa_cons (pv 0) (pa_cons (pe_ix (r := rIxT K) ix_tup (pv 1) (pe_int) (fun _ _ => rfl)) pa_nil))) (C8.pe_c (c_L_write T) hr (by decide) rfl (pa_cons (pv 0) (pa_cons (pe_ix (r := rIxT K) ix_tup (pv 1) (pe_int) (fun _ _ => rfl)) (pa_cons (pe_ix (r := rIxT K) ix_tup (pv 1) (pe_int) (fun _ _ => rfl)) pa_nil)))))), ?_⟩
  cases rq with
  | rd b =>
    refine ⟨_, rfl, t, _, _, _, rfl, rfl, SqT.of ht, rfl, rfl, _, rfl, ite_tt (by decide +kernel) ?_⟩
    exact ⟨_, rfl, _, rfl, t, _, _, _, rfl, rfl, SqT.of ht, rfl, _, _, rfl, c, ρ, p, m, D, on, b, rfl, rfl, g, ok, wf.uq, wf.n1, hfl, by rw [hsl]; exact hq, k⟩
  | wr b v =>
    refine ⟨_, rfl, t, _, _, _, rfl, rfl, SqT.of ht, rfl, rfl, _, rfl, ite_ff (by decide +kernel) ?_⟩
    exact ⟨_, rfl, _, rfl, t, _, _, _, rfl, rfl, SqT.of ht, rfl, _, rfl, t, _, _, _, rfl, rfl, SqT.of ht, rfl, _, _, _, rfl, c, ρ, p, m, D, on, b, nb, (v : Int), rfl, rfl, rfl, g, ok, wf, hfl, hq.1, k⟩
def sp_Ldo (K : PySem.W.Frag) : Sp := Sp2 fun a b H Q => ∃ (c : Cfg) (ρ : Ro) (p t : Addr) (m : Mem) (D : Ds) (nb : Nat) (rq : Rq), a = .ref p ∧ b = .ref t ∧ H t = some (.tup (reqV rq)) ∧ PairAt K c ρ H p m D true ∧ OkC c ∧ WF nb m D ∧ Rm nb m.kn.length 100 D ∧ rq.Ok nb ∧
  ∀ (ρ' : Ro) (H' : Hp), PairAt K c ρ' H' p (planM c m D rq) (run (planS c m D rq) D) true → Mv SP ρ H ρ' H' → Q (dueV c m D rq) H'
theorem sc_L_do : FnScope ["_law_pair_here", "_law_request_here"] ["_law_pair_here", "_law_request_here"] (defScope s_L_do) := ⟨rfl, rfl, rfl, by decide +kernel, rfl, by decide +kernel, by decide +kernel⟩
theorem c_L_do (T : Txt K mg) : C8.Cal P w K mg base 9 "_law_do" (sp_Ldo K) [] := by
  refine cal_of T.F_L_do T.g_Ldo sc_L_do len2 (fun _ _ _ _ _ _ us hl => match us, hl with | [_, _], _ => rfl) (fun cdv A outer s H vs Q E hr h => ?_)
  obtain ⟨a, b, rfl, c, ρ, p, t, m, D, nb, rq, rfl, rfl, ht, ⟨A, g⟩, ok, wf, rm, hq, k⟩ := h
  obtain ⟨dn, ho⟩ := g.obj
  refine ⟨_, pss_one (ps_ret (pe_ifExp (pt_cmpR op_eq (pe_ix (r := rIxT K) ix_tup (pv 1) (pe_int) (fun _ _ => rfl)) (pe_str) (nomark _)) (C8.pe_mt (m_P_read T) hr (by decide) (pv 0) (pa_cons (pe_ix (r := rIxT K) ix_tup (pv 1) (pe_int) (fun _ _ => rfl)) pa_nil)) (C8.pe_mt (m_P_write T) hr (by decide) (pv 0) (pa_cons (pe_ix (r := rIxT K) ix_tup (pv 1) (pe_int) (fun _ _ => rfl)) (pa_cons (pe_ix (r := rIxT K) ix_tup (pv 1) (pe_int) (fun _ _ => rfl)) pa_nil))))), ?_⟩
  cases rq with
  | rd b =>
    refine ⟨_, rfl, t, _, _, _, rfl, rfl, SqT.of ht, rfl, rfl, _, rfl, ite_tt (by decide +kernel) ?_⟩
    exact ⟨_, rfl, p, A.dx, _, rfl, ho, rfl, _, rfl, t, _, _, _, rfl, rfl, SqT.of ht, rfl, _, _, rfl, c, ρ, p, m, D, b, nb, rfl, rfl, ⟨A, g⟩, ok, wf, hq, rm.less (by decide), k⟩
  | wr b v =>
    refine ⟨_, rfl, t, _, _, _, rfl, rfl, SqT.of ht, rfl, rfl, _, rfl, ite_ff (by decide +kernel) ?_⟩
    obtain ⟨q1, q2⟩ := hq
    exact ⟨_, rfl, p, A.dx, _, rfl, ho, rfl, _, rfl, t, _, _, _, rfl, rfl, SqT.of ht, rfl, _, rfl, t, _, _, _, rfl, rfl, SqT.of ht, rfl, _, _, _, rfl, c, ρ, p, m, D, b, nb, (v : Int), rfl, rfl, rfl, ⟨A, g⟩, ok, wf, q1, by omega, by omega, rm, k⟩
/-- the room that a step asks -/
def stOk (nb ns : Nat) : Stp → Prop
  | .slow b _ => b < nb
  | .fast s _ => s < ns
  | _ => True
theorem take_run {l : List Stp} {i : Nat} {x : Stp} (h : l[i]? = some x) (D : Ds) : run (l.take (i + 1)) D = app (run (l.take i) D) x := by
  rw [List.take_succ, h, run_app]
  rfl
def sp_Lgo : Sp := Sp2 fun a b H Q => ∃ (c : Cfg) (ρ : Ro) (p q : Addr) (m : Mem) (D : Ds) (on : Bool) (nb : Nat) (l : List Stp) (ys : List V), a = .ref p ∧ b = .ref q ∧ ModAt c ρ H p m D on ∧ H q = some (.lst ys) ∧ ρ q = 0 ∧ All cS H l ys ∧ ys.length ≤ 100 ∧ Rm nb m.kn.length 101 D ∧ (∀ s ∈ l, stOk nb m.kn.length s) ∧
  ∀ (ρ' : Ro) (H' : Hp), ModAt c ρ' H' p m (run l D) on → Mv SM ρ H ρ' H' → Q .non H'
theorem sc_L_go : FnScope ["_law_m", "_law_steps", "_law_is_done", "_law_step"] ["_law_m", "_law_steps"] (defScope s_L_go) := ⟨rfl, rfl, rfl, by decide +kernel, rfl, by decide +kernel, by decide +kernel⟩
theorem c_L_go (T : Txt K mg) : C8.Cal P w K mg base 2 "_law_go" (sp_Lgo) [] := by
  refine cal_of T.F_L_go T.g_Lgo sc_L_go len2 (fun _ _ _ _ _ _ us hl => match us, hl with | [_, _], _ => rfl) (fun cdv A outer s H vs Q E hr h => ?_)
  obtain ⟨a, b, rfl, c, ρ, p, q, m, D, on, nb, l, ys, rfl, rfl, g0, hq, rq, ha, hl, rm, hst, k⟩ := h
  refine ⟨_, pss_cons (ps_set (i := 2) sc_L_go.nd rfl (.inl rfl) (pe_bl))
      (pss_cons (ps_for PassesOwn.never rfl (pi_list (pv 1)) (pg_name (i := 3) sc_L_go.nd rfl (.inl rfl)) (pss_one (ps_if (pt_cmpR op_eq (pe_ix (r := rIxT K) ix_tup (pv 3) (pe_int) (fun _ _ => rfl)) (pe_str) (nomark _)) (pss_one (ps_set (i := 2) sc_L_go.nd rfl (.inl rfl) (pe_bl))) (pss_one (ps_if (pt_cmpR op_eq (pe_ix (r := rIxT K) ix_tup (pv 3) (pe_int) (fun _ _ => rfl)) (pe_str) (nomark _)) (pss_one (ps_asg (pe_op op_add (pe_ix (r := rIxL K) ix_list (pe_ix (r := rIxL K) ix_list (pe_dget (hu_of hr) (pv 0) (pe_ix (r := rIxT K) ix_tup (pv 3) (pe_int) (fun _ _ => rfl)) (fun _ _ => rfl)) (pe_int) (fun _ _ => rfl)) (pe_int) (fun _ _ => rfl)) (pe_int)) (pg_sub (pe_ix (r := rIxL K) ix_list (pe_dget (hu_of hr) (pv 0) (pe_ix (r := rIxT K) ix_tup (pv 3) (pe_int) (fun _ _ => rfl)) (fun _ _ => rfl)) (pe_int) (fun _ _ => rfl)) (pe_int) set_list))) (pss_one (ps_if (pt_cmpR op_eq (pe_dget (hu_of hr) (pv 0) (pe_str) (fun _ _ => rfl)) (pe_int) (nomark _)) (pss_cons (ps_asg (pe_tup (pa_cons (pe_bl) (pa_cons (pe_dnewK) (pa_cons (pe_non) pa_nil)))) (pg_tup (n := 3) rfl (pgs_cons (pg_sub (pv 0) (pe_str) (set_dict (hu_of hr))) (pgs_cons (pg_sub (pv 0) (pe_str) (set_dict (hu_of hr))) (pgs_cons (pg_sub (pv 0) (pe_str) (set_dict (hu_of hr))) pgs_nil)))))
      (pss_one (ps_ret (pv 2)))) (pss_cons (ps_dput (hu_of hr) (pv 0) (pe_str) (pe_ifExp (pt_cmpR op_isN (pe_dget (hu_of hr) (pv 0) (pe_str) (fun _ _ => rfl)) (pe_non) (nomark _)) (pe_non) (pe_op op_sub (pe_dget (hu_of hr) (pv 0) (pe_str) (fun _ _ => rfl)) (pe_int))) rfl)
      (pss_one (ps_if (pt_cmpR op_eq (pe_slice sl_str (pe_ix (r := rIxT K) ix_tup (pv 3) (pe_int) (fun _ _ => rfl)) (po_none) (po_some (pe_int))) (pe_str) (nomark _)) (pss_one (ps_expr (C8.pe_c (c_L_sync T) hr (by decide) rfl (pa_cons (pe_dget (hu_of hr) (pv 0) (pe_slice sl_str (pe_ix (r := rIxT K) ix_tup (pv 3) (pe_int) (fun _ _ => rfl)) (po_some (pe_int)) (po_none)) (fun _ _ => rfl)) pa_nil)))) (pss_one (ps_expr (C8.pe_c (c_L_put T) hr (by decide) rfl (pa_cons (pe_dget (hu_of hr) (pv 0) (pe_ix (r := rIxT K) ix_tup (pv 3) (pe_int) (fun _ _ => rfl)) (fun _ _ => rfl)) (pa_cons (pe_ix (r := rIxT K) ix_tup (pv 3) (pe_int) (fun _ _ => rfl)) (pa_cons (pe_ix (r := rIxT K) ix_tup (pv 3) (pe_int) (fun _ _ => rfl)) pa_nil))))))))))))))))
      (pss_one (ps_ret (pe_non)))), ?_⟩
  refine ⟨_, rfl, q, rfl, ⟨_, SqL.of hq⟩, ?_⟩
  have hlen := ha.len
  refine for_it (walk_list (xs := ys)) (fun i σ H' => ∃ (dn : Bool) (x3 : Option V) (ρ' : Ro), σ = [some (.ref p), some (.ref q), some (.bl dn), x3] ∧ Mv SM ρ H ρ' H' ∧ ModAt c ρ' H' p m (run (l.take i) D) on)
    ⟨_, _, ρ, rfl, Mv.refl, by rw [List.take_zero]; exact g0⟩ (fun i σ H' _ ⟨_, _, _, _, mm, _⟩ => SqL.of (mm.keeps hq rq sm0)) (fun i x σ Hz H1 hi ⟨dn, x3, ρ1, e0, m1, A1, g1⟩ y => ?_) (fun σ H1 ⟨dn, x3, ρ1, e0, m1, g1⟩ => ?_)
  · obtain ⟨rfl, hx⟩ := y
    subst e0
    obtain ⟨s, hs, t, rfl, hts⟩ := (ha.mono m1.tups).get' hx
    have hso := hst s (List.mem_of_getElem? hs)
    have hil : i < l.length := (List.getElem?_eq_some_iff.mp hs).1
    have rm1 : Rm nb m.kn.length 1 (run (l.take i) D) := rm.r (by rw [List.length_take]; omega)
    have tr := take_run hs D
    generalize run (l.take i) D = Di at *
    have left := fun (s : List Nat) => g1.g "left" _ rfl
    obtain ⟨g2, m2⟩ := g1.obj' m.turn m.begun m.hits on
    have m2 := m2.mono (S' := SM) (s1_sm (by decide) (by decide))
    have ht2 := fun b xs z => m2.tups b xs z
    cases s with
    | done =>
      have hts : H1 t = some (.tup [.str "done"]) := hts
      refine ⟨_, rfl, t, _, _, _, rfl, rfl, SqT.of hts, rfl, rfl, _, rfl, ite_tt (by decide +kernel) ?_⟩
      exact ⟨_, _, ρ1, rfl, m1, by rw [tr]; exact ⟨A1, g1⟩⟩
    | rslow =>
      have hts : H1 t = some (.tup [.str "read", .str "slow"]) := hts
      obtain ⟨L, w1⟩ := g1.slow.mw
      refine ⟨_, rfl, t, _, _, _, rfl, rfl, SqT.of hts, rfl, rfl, _, rfl, ite_ff (by decide +kernel) ?_⟩
      refine ⟨_, rfl, t, _, _, _, rfl, rfl, SqT.of hts, rfl, rfl, _, rfl, ite_tt (by decide +kernel) ?_⟩
      refine ⟨_, rfl, _, rfl, t, _, _, _, rfl, rfl, SqT.of hts, rfl, p, _, rfl, g1.g "slow" _ rfl, A1.s, _, _, _, rfl, rfl, SqL.of w1.hd, rfl, L.a4, _, _, _, rfl, rfl, SqL.of w1.g.ta, rfl, _, _, rfl, rfl, ?_⟩
      refine ⟨_, rfl, _, rfl, t, _, _, _, rfl, rfl, SqT.of hts, rfl, p, _, rfl, g1.g "slow" _ rfl, A1.s, _, _, _, rfl, rfl, SqL.of w1.hd, rfl, L.a4, _, _, 0, rfl, rfl, w1.g.ta, rfl, ?_⟩
      have w2 := w1.tal (Di.slow.tr + 1) Di.slow.tw Di.slow.ts
      exact ⟨_, _, ρ1, rfl, m1.trans (w2.m.mono (sd_sm (by decide) (by decide))), by rw [tr]; exact ⟨A1, g1.slow' w2.at_ w2.m⟩⟩
    | rfast =>
      have hts : H1 t = some (.tup [.str "read", .str "fast"]) := hts
      obtain ⟨L, w1⟩ := g1.fast.mw
      refine ⟨_, rfl, t, _, _, _, rfl, rfl, SqT.of hts, rfl, rfl, _, rfl, ite_ff (by decide +kernel) ?_⟩
      refine ⟨_, rfl, t, _, _, _, rfl, rfl, SqT.of hts, rfl, rfl, _, rfl, ite_tt (by decide +kernel) ?_⟩
      refine ⟨_, rfl, _, rfl, t, _, _, _, rfl, rfl, SqT.of hts, rfl, p, _, rfl, g1.g "fast" _ rfl, A1.f, _, _, _, rfl, rfl, SqL.of w1.hd, rfl, L.a4, _, _, _, rfl, rfl, SqL.of w1.g.ta, rfl, _, _, rfl, rfl, ?_⟩
      refine ⟨_, rfl, _, rfl, t, _, _, _, rfl, rfl, SqT.of hts, rfl, p, _, rfl, g1.g "fast" _ rfl, A1.f, _, _, _, rfl, rfl, SqL.of w1.hd, rfl, L.a4, _, _, 0, rfl, rfl, w1.g.ta, rfl, ?_⟩
      have w2 := w1.tal (Di.fast.tr + 1) Di.fast.tw Di.fast.ts
      exact ⟨_, _, ρ1, rfl, m1.trans (w2.m.mono (sd_sm (by decide) (by decide))), by rw [tr]; exact ⟨A1, g1.fast' w2.at_ w2.m⟩⟩
    | slow b v =>
      have hts : H1 t = some (.tup [.str "slow", .int (b : Int), .int v]) := hts
      refine ⟨_, rfl, t, _, _, _, rfl, rfl, SqT.of hts, rfl, rfl, _, rfl, ite_ff (by decide +kernel) ?_⟩
      refine ⟨_, rfl, t, _, _, _, rfl, rfl, SqT.of hts, rfl, rfl, _, rfl, ite_ff (by decide +kernel) ?_⟩
      refine ⟨_, rfl, p, _, rfl, g1.g "left" _ rfl, rfl, _, rfl, ite_ff (by decide +kernel) ?_⟩
      refine ⟨_, rfl, p, _, rfl, g1.g "left" _ rfl, rfl, _, rfl, ite_tt (by decide +kernel) ⟨_, rfl, p, _, rfl, DPut.k (k := .inr "left") g1.obj (show (11 : Nat) < sizeLine by decide), ?_⟩⟩
      have hts2 := ht2 _ _ hts
      refine ⟨_, rfl, t, _, _, _, rfl, rfl, SqT.of hts2, rfl, _, rfl, _, rfl, by decide, rfl, _, rfl, ite_ff (by decide +kernel) ?_⟩
      refine ⟨_, rfl, _, rfl, t, _, _, _, rfl, rfl, SqT.of hts2, rfl, p, _, rfl, g2.g "slow" _ rfl, _, rfl, t, _, _, _, rfl, rfl, SqT.of hts2, rfl, _, rfl, t, _, _, _, rfl, rfl, SqT.of hts2, rfl, _, _, _, rfl, Int, cI, 2010, ρ1, A1.s, Di.slow, b, v, rfl, rfl, g2.slow, by rw [rm1.l1]; exact hso, rfl, by have := rm1.w1; omega, fun ρ3 H3 d3 m3 => ?_⟩
      exact ⟨_, _, ρ3, rfl, (m1.trans m2).trans (m3.mono (sd_sm (by decide) (by decide))), by rw [tr]; exact ⟨A1, g2.slow' d3 m3⟩⟩
    | fast b r =>
      obtain ⟨u, hts, hu⟩ : ∃ u, H1 t = some (.tup [.str "fast", .int (b : Int), u]) ∧ cR.R H1 r u := hts
      refine ⟨_, rfl, t, _, _, _, rfl, rfl, SqT.of hts, rfl, rfl, _, rfl, ite_ff (by decide +kernel) ?_⟩
      refine ⟨_, rfl, t, _, _, _, rfl, rfl, SqT.of hts, rfl, rfl, _, rfl, ite_ff (by decide +kernel) ?_⟩
      refine ⟨_, rfl, p, _, rfl, g1.g "left" _ rfl, rfl, _, rfl, ite_ff (by decide +kernel) ?_⟩
      refine ⟨_, rfl, p, _, rfl, g1.g "left" _ rfl, rfl, _, rfl, ite_tt (by decide +kernel) ⟨_, rfl, p, _, rfl, DPut.k (k := .inr "left") g1.obj (show (11 : Nat) < sizeLine by decide), ?_⟩⟩
      have hts2 := ht2 _ _ hts
      refine ⟨_, rfl, t, _, _, _, rfl, rfl, SqT.of hts2, rfl, _, rfl, _, rfl, by decide, rfl, _, rfl, ite_ff (by decide +kernel) ?_⟩
      refine ⟨_, rfl, _, rfl, t, _, _, _, rfl, rfl, SqT.of hts2, rfl, p, _, rfl, g2.g "fast" _ rfl, _, rfl, t, _, _, _, rfl, rfl, SqT.of hts2, rfl, _, rfl, t, _, _, _, rfl, rfl, SqT.of hts2, rfl, _, _, _, rfl, Option Rec, cR, 2020, ρ1, A1.f, Di.fast, b, r, rfl, rfl, g2.fast, by rw [rm1.l2]; exact hso, cR.mono m2.tups hu, by have := rm1.w2; omega, fun ρ3 H3 d3 m3 => ?_⟩
      exact ⟨_, _, ρ3, rfl, (m1.trans m2).trans (m3.mono (sd_sm (by decide) (by decide))), by rw [tr]; exact ⟨A1, g2.fast' d3 m3⟩⟩
    | sslow =>
      have hts : H1 t = some (.tup [.str "sync slow"]) := hts
      refine ⟨_, rfl, t, _, _, _, rfl, rfl, SqT.of hts, rfl, rfl, _, rfl, ite_ff (by decide +kernel) ?_⟩
      refine ⟨_, rfl, t, _, _, _, rfl, rfl, SqT.of hts, rfl, rfl, _, rfl, ite_ff (by decide +kernel) ?_⟩
      refine ⟨_, rfl, p, _, rfl, g1.g "left" _ rfl, rfl, _, rfl, ite_ff (by decide +kernel) ?_⟩
      refine ⟨_, rfl, p, _, rfl, g1.g "left" _ rfl, rfl, _, rfl, ite_tt (by decide +kernel) ⟨_, rfl, p, _, rfl, DPut.k (k := .inr "left") g1.obj (show (11 : Nat) < sizeLine by decide), ?_⟩⟩
      have hts2 := ht2 _ _ hts
      refine ⟨_, rfl, t, _, _, _, rfl, rfl, SqT.of hts2, rfl, _, rfl, _, rfl, by decide, rfl, _, rfl, ite_tt (by decide +kernel) ?_⟩
      refine ⟨_, rfl, _, rfl, t, _, _, _, rfl, rfl, SqT.of hts2, rfl, _, rfl, _, rfl, by decide, p, _, rfl, g2.g "slow" _ rfl, _, rfl, Int, cI, 2010, ρ1, A1.s, Di.slow, rfl, g2.slow, fun ρ3 H3 d3 m3 => ?_⟩
      exact ⟨_, _, ρ3, rfl, (m1.trans m2).trans (m3.mono (sd_sm (by decide) (by decide))), by rw [tr]; exact ⟨A1, g2.slow' d3 m3⟩⟩
    | sfast =>
      have hts : H1 t = some (.tup [.str "sync fast"]) := hts
      refine ⟨_, rfl, t, _, _, _, rfl, rfl, SqT.of hts, rfl, rfl, _, rfl, ite_ff (by decide +kernel) ?_⟩
      refine ⟨_, rfl, t, _, _, _, rfl, rfl, SqT.of hts, rfl, rfl, _, rfl, ite_ff (by decide +kernel) ?_⟩
      refine ⟨_, rfl, p, _, rfl, g1.g "left" _ rfl, rfl, _, rfl, ite_ff (by decide +kernel) ?_⟩
      refine ⟨_, rfl, p, _, rfl, g1.g "left" _ rfl, rfl, _, rfl, ite_tt (by decide +kernel) ⟨_, rfl, p, _, rfl, DPut.k (k := .inr "left") g1.obj (show (11 : Nat) < sizeLine by decide), ?_⟩⟩
      have hts2 := ht2 _ _ hts
      refine ⟨_, rfl, t, _, _, _, rfl, rfl, SqT.of hts2, rfl, _, rfl, _, rfl, by decide, rfl, _, rfl, ite_tt (by decide +kernel) ?_⟩
      refine ⟨_, rfl, _, rfl, t, _, _, _, rfl, rfl, SqT.of hts2, rfl, _, rfl, _, rfl, by decide, p, _, rfl, g2.g "fast" _ rfl, _, rfl, Option Rec, cR, 2020, ρ1, A1.f, Di.fast, rfl, g2.fast, fun ρ3 H3 d3 m3 => ?_⟩
      exact ⟨_, _, ρ3, rfl, (m1.trans m2).trans (m3.mono (sd_sm (by decide) (by decide))), by rw [tr]; exact ⟨A1, g2.fast' d3 m3⟩⟩
  · subst e0
    rw [← hlen, List.take_length] at g1
    exact k _ _ g1 m1
end
end Kb
set_option Elab.async false
set_option linter.all false
set_option maxRecDepth 100000
set_option maxHeartbeats 4000000
/-! A lambda is made: what stands, the table of code objects; the def that calls it. -/
namespace Kb
open PySem PySem.Spec PyProof.Rows L2 LamX
/-- neither a table nor a code object -/
def Pl (o : HO) : Prop := (∀ ps, o ≠ .tbl ps) ∧ ∀ h, o ≠ .ext h
theorem pl_lst {xs : List V} : Pl (.lst xs) := ⟨fun _ z => (by cases z), fun _ z => (by cases z)⟩
theorem pl_tup {xs : List V} : Pl (.tup xs) := ⟨fun _ z => (by cases z), fun _ z => (by cases z)⟩
theorem pl_ins {C dx : Addr} {fs : List (Str × V)} : Pl (.ins C dx fs) := ⟨fun _ z => (by cases z), fun _ z => (by cases z)⟩
theorem pl_dK {kvs : List (Key × V)} : Pl (.dK kvs) := ⟨fun _ z => (by cases z), fun _ z => (by cases z)⟩
structure Ex (ρ : Ro) (H : Hp) (ρ' : Ro) (H' : Hp) : Prop where
  keep : ∀ a o, H a = some o → Pl o → H' a = some o
  role : ∀ a o, H a = some o → Pl o → ρ' a = ρ a
section
variable {K : PySem.W.Frag} {ρ ρ' : Ro} {H H' : Hp} {c : Cfg} {r : Nat}
theorem Ex.k (e : Ex ρ H ρ' H') {a : Addr} {o : HO} (h : H a = some o) (p : Pl o) : H' a = some o := e.keep a o h p
theorem Ex.ro (e : Ex ρ H ρ' H') {a : Addr} {o : HO} {k : Nat} (h : H a = some o) (p : Pl o) (q : ρ a = k) : ρ' a = k := (e.role a o h p).trans q
theorem Ex.tups (e : Ex ρ H ρ' H') : ∀ a xs, H a = some (.tup xs) → H' a = some (.tup xs) := fun a xs h => e.k h pl_tup
theorem DkAt.ex {α : Type} {c : Cell α} {A : DkL} {D : Dk α} (h : DkAt c r ρ H A D) (e : Ex ρ H ρ' H') : DkAt c r ρ' H' A D := by
  obtain ⟨⟨v1, h1, q1⟩, ⟨v2, h2, q2⟩, ⟨v3, h3, q3⟩, h4, r1, r2, r3, r4⟩ := h
  exact ⟨⟨v1, e.k h1 pl_lst, q1.mono e.tups⟩, ⟨v2, e.k h2 pl_lst, q2.mono e.tups⟩, ⟨v3, e.k h3 pl_lst, q3.mono e.tups⟩, e.k h4 pl_lst, e.ro h1 pl_lst r1, e.ro h2 pl_lst r2, e.ro h3 pl_lst r3, e.ro h4 pl_lst r4⟩
theorem DiskAt.ex {α : Type} {c : Cell α} {d : Addr} {D : Dk α} (h : DiskAt K c r ρ H d D) (e : Ex ρ H ρ' H') : DiskAt K c r ρ' H' d D :=
  let ⟨dx, A, h1, h2, h3⟩ := h; ⟨dx, A, e.k h1 pl_ins, e.ro h1 pl_ins h2, h3.ex e⟩
theorem MDkAt.ex {α : Type} {c : Cell α} {d : Addr} {D : Dk α} (h : MDkAt c r ρ H d D) (e : Ex ρ H ρ' H') : MDkAt c r ρ' H' d D :=
  let ⟨A, h1, h2, h3⟩ := h; ⟨A, e.k h1 pl_lst, e.ro h1 pl_lst h2, h3.ex e⟩
theorem KnownAt.ex {k : Addr} {kn : Kn} (h : KnownAt r ρ H k kn) (e : Ex ρ H ρ' H') : KnownAt r ρ' H' k kn := by
  obtain ⟨hl, ea, L, h⟩ := h
  refine ⟨hl, ea, L, h.rep, e.k h.dict pl_dK, e.ro h.dict pl_dK h.role, fun s en he => ?_⟩
  obtain ⟨r1, t, h1, h2⟩ := h.ent s en he
  exact ⟨e.ro h1 pl_lst r1, t, e.k h1 pl_lst, e.tups _ _ h2⟩
theorem RulesAt.ex {a : Addr} (h : RulesAt K ρ H a c) (e : Ex ρ H ρ' H') : RulesAt K ρ' H' a c := let ⟨dx, t, h1, h2, h3⟩ := h; ⟨dx, t, e.k h1 pl_ins, e.ro h1 pl_ins h2, e.tups _ _ h3⟩
theorem RecsAt.ex {a : Addr} (h : RecsAt K ρ H a c) (e : Ex ρ H ρ' H') : RecsAt K ρ' H' a c := let ⟨dx, t, vs, h1, h2, h3, h4⟩ := h; ⟨dx, t, vs, e.k h1 pl_ins, e.ro h1 pl_ins h2, e.tups _ _ h3, h4.mv e.tups⟩
theorem PairAt.ex {p : Addr} {m : Mem} {D : Ds} {on : Bool} (h : PairAt K c ρ H p m D on) (e : Ex ρ H ρ' H') : PairAt K c ρ' H' p m D on := by
  obtain ⟨A, h⟩ := h
  obtain ⟨dn, ho⟩ := h.obj
  obtain ⟨ws, hl, hw⟩ := h.wr
  exact ⟨A, ⟨dn, e.k ho pl_ins⟩, e.ro ho pl_ins h.role, e.k h.past pl_lst, e.ro h.past pl_lst h.rp, ⟨ws, hl, e.k hw pl_lst⟩, e.ro hw pl_lst h.rw_, h.rul.ex e, h.ord.ex e, h.slow.ex e, h.fast.ex e, h.kn.ex e⟩
theorem ModAt.ex {a : Addr} {m : Mem} {D : Ds} {on : Bool} (h : ModAt c ρ H a m D on) (e : Ex ρ H ρ' H') : ModAt c ρ' H' a m D on := by
  obtain ⟨A, h⟩ := h
  obtain ⟨vs, ho, hr⟩ := h.ord
  exact ⟨A, e.k h.obj pl_dK, e.ro h.obj pl_dK h.role, e.k h.past pl_lst, e.ro h.past pl_lst h.rp, e.tups _ _ h.rul, ⟨vs, e.k ho pl_lst, hr.mv e.tups⟩, e.ro ho pl_lst h.ro, h.slow.ex e, h.fast.ex e, h.kn.ex e⟩
theorem DAt.ex {d : Addr} (h : DAt ρ H d) (e : Ex ρ H ρ' H') : DAt ρ' H' d := let ⟨ds, h1, h2, h3⟩ := h; ⟨ds, e.k h1 pl_lst, e.ro h1 pl_lst h2, h3⟩
end
/-! ### the table -/
abbrev lamQ : Str := (envOfC "_law_same" (defScope s_L_same) 0 0 .none).qual ++ "<lambda>"
def sameP (K : PySem.W.Frag) : Addr := (He.cT K ("_law_same", none)).2
def TabAt (P : Addr) (ρ : Ro) (H : Hp) : Prop := ∃ ps : Array Value, H P = some (.tbl ps) ∧ ρ P = 4000 ∧ TriplesOk ps.toList ∧ ∀ (pos : Pos) (cv : Value), codeAmong pos ps.toList = some cv → ∃ c, cv = .ref c ∧ H c = some (CodeO c lamQ) ∧ ρ c = 4001
theorem TabAt.mv {P : Addr} {S : Nat → Prop} {ρ ρ' : Ro} {H H' : Hp} (h : TabAt P ρ H) (m : Mv S ρ H ρ' H') (n0 : ¬ S 4000) (n1 : ¬ S 4001) : TabAt P ρ' H' := by
  obtain ⟨ps, h1, h2, h3, h4⟩ := h
  refine ⟨ps, m.keeps h1 h2 n0, m.ro h1 h2, h3, fun pos cv hc => ?_⟩
  obtain ⟨c, e1, e2, e3⟩ := h4 pos cv hc
  exact ⟨c, e1, m.keeps e2 e3 n1, m.ro e2 e3⟩
theorem TabAt.tabs {P : Addr} {ρ : Ro} {H : Hp} (h : TabAt P ρ H) : Tabs [(P, lamQ)] H := fun p hp => by
  obtain ⟨ps, h1, h2, h3, h4⟩ := h
  rw [List.mem_singleton.mp hp]
  exact ⟨ps, h1, h3, fun pos cv hc => let ⟨c, e1, e2, _⟩ := h4 pos cv hc; ⟨c, e1, e2⟩⟩
open Classical in
theorem tab_ex {P : Addr} {ρ : Ro} {H H1 : Hp} (h : TabAt P ρ H) (eN : ExtN H H1) (T1 : Tabs [(P, lamQ)] H1) : ∃ ρ1, Ex ρ H ρ1 H1 ∧ TabAt P ρ1 H1 := by
  obtain ⟨ps, h1, h2, h3, h4⟩ := h
  obtain ⟨ps1, t1, t2, t3⟩ := T1 _ (List.mem_singleton.mpr rfl)
  have t1 : H1 P = some (.tbl ps1) := t1
  refine ⟨fun a => if ∃ o, H a = some o ∧ Pl o then ρ a else if a = P then 4000 else 4001, ⟨fun a o ha p => eN a o ha p.1, fun a o ha p => if_pos ⟨o, ha, p⟩⟩, ps1, t1, ?_, t2, fun pos cv hc => ?_⟩
  · show (if ∃ o, H P = some o ∧ Pl o then ρ P else if P = P then 4000 else 4001) = 4000
    rw [if_neg (fun ⟨o, ho, p⟩ => p.1 ps (Option.some.inj (ho.symm.trans h1))), if_pos rfl]
  · obtain ⟨c, e1, e2⟩ := t3 pos cv hc
    refine ⟨c, e1, e2, ?_⟩
    show (if ∃ o, H c = some o ∧ Pl o then ρ c else if c = P then 4000 else 4001) = 4001
    rw [if_neg (fun ⟨o, ho, p⟩ => p.2 _ (Option.some.inj ((eN c o ho p.1).symm.trans e2))), if_neg (fun z => by
      rw [z, t1] at e2
      exact codeO_ne ps1 (Option.some.inj e2).symm)]
/-! ### the def that calls it -/
def TTpow : (XK → Hp → VK → Prop) → Hp → VK → Prop := fun tl H Q => tl (fun _ _ _ => False) H fun _ H' => Q .non H'
theorem sc_L_power_of : FnScope ["_law_call", "e"] ["_law_call"] (defScope s_L_power_of) := ⟨rfl, rfl, rfl, by decide +kernel, rfl, by decide +kernel, by decide +kernel⟩
theorem power_gives {X : Cx} {g : Addr} {cdg : Value} {q : Str} (T : Txt X.K X.mg) : GivesTo X ["_law_call", "e"] "_law_power_of" (defScope s_L_power_of) g cdg (defBody s_L_power_of) "_law_call" q TTpow := by
  intro f c' s H Q tl act hc h
  refine ⟨_, pss_cons (ps_try_as (X := (cxOf C8.CX0 X.prog X.w X.K X.mg X.base ["_law_call", "e"] "_law_power_of" (defScope s_L_power_of) g cdg X.A X.stack s H C8.E0).nox) (c := .ref (He.ga X.K "PowerFailed")) (i := 1)
      (tb := fun W D σ H => ∃ Ech : XK, (∀ cls d σ' H', Ech cls d H' → W cls d σ' H') ∧ σ[0]? = some (some (.ref f)) ∧ H c' = some (CodeO c' q) ∧ tl Ech H fun _ H' => D.nx σ H')
      rfl rfl sc_L_power_of.nd rfl rfl ⟨rfl, by decide, .inl T.g_PowerFailed⟩ L2.takes0 (fun W pn xe tk _ => ?_) (fun a oe cls d pn _ _ => pss_one ps_never)) (pss_one (ps_ret pe_non)), ?_⟩
  · refine ⟨fun pins s' σ H' D I h' => ?_⟩
    obtain ⟨Ech, hW, h1, h2, h3⟩ := h'
    refine PSs.run (pss_one (ps_expr (act W pn xe Ech _ _ tk hW))) pins s' σ H' D I ?_
    exact ⟨h1, h2, h3⟩
  · exact ⟨fun _ _ _ => False, fun cls d σ' H' z => z.elim, rfl, hc, h⟩
/-! ### a def whose code object is told -/
section
variable {P : Program} {w : World} {K : PySem.W.Frag} {mg : Str → Option Value} {base : Heap} {x qual : Str} {params : Arguments} {body : List PySem.Stmt} {scope : Scope} {dvs : List V} {kws : List (Str × V)} {f : Addr} {fd : FuncData}
theorem fn_okC {N ps : List Str} {k : Nat} {sp : Sp} (F : FunD K x qual params body scope dvs kws f fd) (S : FnScope N ps scope) (len : ∀ vs H Q E, sp vs H Q E → vs.length = ps.length)
    (hbody : ∀ (cdv : Value) (A : Around) (outer : List Env) (s : Shared) (H : Hp) (vs : List V) (Q : VK) (E : XK), (∃ c, cdv = .ref c ∧ fd.code = .ref c) → Room k (A.deeper (envOfC qual scope s.heap.objs.size f cdv)) → sp vs H Q E →
      ∃ t, PSs (cxOf CX0 P w K mg base N qual scope f cdv A outer s H E).nox body t ∧ t { nx := fun _ H' => Q .non H', rt := Q } (start N vs) H) : FnOk P w K mg base CX0 (k + 1) f fd ps sp := by
  obtain ⟨oc, od, dV, kV, doc, pm, an, cdv, ct, osl, rfl, lk, hcd, _, _⟩ := F.ex
  obtain ⟨c, e⟩ := He.codeIn_ref hcd
  refine fn_of lk hcd S len fun A outer s H vs Q E hr hsp => ?_
  obtain ⟨t, ht, hq⟩ := hbody cdv A outer s H vs Q E ⟨c, e, e⟩ hr hsp
  exact ⟨t, ht.nox, hq⟩
end
end Kb
set_option Elab.async false
set_option linter.all false
set_option maxRecDepth 100000
set_option maxHeartbeats 4000000
namespace Kb
open PySem PySem.Spec PyProof.Rows L2
/-! ### equal values -/
def flatE : V → Prop
  | .non => True
  | .bl _ => True
  | .int _ => True
  | .str _ => True
  | _ => False
def Eqv (H : Hp) : Nat → V → V → Prop
  | 0, a, b => a = b ∧ flatE a
  | n + 1, a, b => (a = b ∧ flatE a) ∨ ∃ (p q : Addr) (xs ys : List V), a = .ref p ∧ b = .ref q ∧ ((H p = some (.lst xs) ∧ H q = some (.lst ys)) ∨ (H p = some (.tup xs) ∧ H q = some (.tup ys))) ∧ xs.length = ys.length ∧ xs.length ≤ 10000 ∧ ∀ (i : Nat) (x y : V), xs[i]? = some x → ys[i]? = some y → Eqv H n x y
theorem Eqv.mono {H H' : Hp} (e : ∀ a o, H a = some o → H' a = some o) : ∀ {n : Nat} {a b : V}, Eqv H n a b → Eqv H' n a b
  | 0, _, _, h => h
  | n + 1, _, _, h => by
    rcases h with h | ⟨p, q, xs, ys, e1, e2, h, l1, l2, hs⟩
    · exact .inl h
    · exact .inr ⟨p, q, xs, ys, e1, e2, h.imp (fun z => ⟨e _ _ z.1, e _ _ z.2⟩) (fun z => ⟨e _ _ z.1, e _ _ z.2⟩), l1, l2, fun i x y hx hy => (hs i x y hx hy).mono e⟩
theorem eqv_flat {H : Hp} {n : Nat} {a : V} (h : flatE a) : Eqv H n a a := by
  cases n with
  | zero => exact ⟨rfl, h⟩
  | succ n => exact .inl ⟨rfl, h⟩
theorem Mv.keep0 {ρ ρ' : Ro} {H H' : Hp} (m : Mv S0 ρ H ρ' H') : ∀ a o, H a = some o → H' a = some o := fun a o h => m.at0 h
def cB : Cell Bool := ⟨fun _ b v => v = .bl b, fun _ h => h⟩
theorem bools_of {H : Hp} : ∀ {l : List Bool} {vs : List V}, All cB H l vs → vs = l.map V.bl
  | _, _, .nil => rfl
  | _, _, .cons r t => by rw [bools_of t, show _ = V.bl _ from r]; rfl
theorem all_true (n : Nat) : ((List.range n).filterMap fun _ => some true).all id = true := by
  rw [List.all_eq_true]
  intro x hx
  obtain ⟨_, _, e⟩ := List.mem_filterMap.mp hx
  exact (Option.some.inj e).symm
section
variable {P : Program} {w : World} {K : PySem.W.Frag} {mg : Str → Option Value} {base : Heap}
def sp_Lequal : Nat → Sp
  | 0 => fun _ _ _ _ => False
  | n + 1 => Sp2 fun a b H Q => ∃ ρ : Ro, Eqv H n a b ∧ ∀ (ρ' : Ro) (H' : Hp), Mv S0 ρ H ρ' H' → Q (.bl true) H'
theorem sc_L_equal : FnScope ["_law_actual", "_law_expected", "_law_k"] ["_law_actual", "_law_expected"] (defScope s_L_equal) := ⟨rfl, rfl, rfl, by decide +kernel, rfl, by decide +kernel, by decide +kernel⟩
theorem c_L_equal (T : Txt K mg) : ∀ n, C8.Cal P w K mg base (n + 1) "_law_equal" (sp_Lequal n) []
  | 0 => cal_of T.F_L_equal T.g_Lequal sc_L_equal (fun _ _ _ _ h => h.elim) (fun _ _ _ _ _ _ us hl => match us, hl with | [_, _], _ => rfl) (fun _ _ _ _ _ _ _ _ _ h => h.elim)
  | n + 1 => by
    have ih := c_L_equal T n
    refine cal_of T.F_L_equal T.g_Lequal sc_L_equal len2 (fun _ _ _ _ _ _ us hl => match us, hl with | [_, _], _ => rfl) (fun cdv A outer s H vs Q E hr h => ?_)
    obtain ⟨a, b, rfl, ρ, hE, k⟩ := h
    have kk : ∀ b, b = true → Q (.bl b) H := fun b e => by rw [e]; exact k _ _ Mv.refl
    have key : (a = b ∧ flatE a) ∨ ∃ (n' : Nat) (p q : Addr) (xs ys : List V), n = n' + 1 ∧ a = .ref p ∧ b = .ref q ∧ ((H p = some (.lst xs) ∧ H q = some (.lst ys)) ∨ (H p = some (.tup xs) ∧ H q = some (.tup ys))) ∧ xs.length = ys.length ∧ xs.length ≤ 10000 ∧ ∀ (i : Nat) (x y : V), xs[i]? = some x → ys[i]? = some y → Eqv H n' x y := by
      cases n with
      | zero => exact .inl hE
      | succ n' =>
        rcases hE with h | ⟨p, q, xs, ys, h⟩
        · exact .inl h
        · exact .inr ⟨n', p, q, xs, ys, rfl, h⟩
    refine ⟨_, pss_cons (ps_if (pt_cmpR op_isN (pv 1) (pe_non) (nomark _)) (pss_one (ps_ret (pe_cmpR op_isN (pv 0) (pe_non) (nomark _)))) (pss_nil))
      (pss_cons (ps_if (pt_val (pe_callB call_isi (by rfl) T.f_isinstance (by decide +kernel) (pa_cons (pv 1) (pa_cons (pe_bltn (v := .ty "bool") (u := .type "bool") rfl T.f_bool (by decide +kernel) rfl) pa_nil)))) (pss_one (ps_ret (pe_and (pe_callB call_isi (by rfl) T.f_isinstance (by decide +kernel) (pa_cons (pv 0) (pa_cons (pe_bltn (v := .ty "bool") (u := .type "bool") rfl T.f_bool (by decide +kernel) rfl) pa_nil))) (pe_one (pe_cmpR op_eq (pv 0) (pv 1) (nomark _)))))) (pss_nil))
      (pss_cons (ps_if (pt_val (pe_callB call_isi (by rfl) T.f_isinstance (by decide +kernel) (pa_cons (pv 1) (pa_cons (pe_bltn (v := .ty "int") (u := .type "int") rfl T.f_int (by decide +kernel) rfl) pa_nil)))) (pss_one (ps_ret (pe_and (pe_callB call_isi (by rfl) T.f_isinstance (by decide +kernel) (pa_cons (pv 0) (pa_cons (pe_bltn (v := .ty "int") (u := .type "int") rfl T.f_int (by decide +kernel) rfl) pa_nil))) (pe_and (pe_not (pe_callB call_isi (by rfl) T.f_isinstance (by decide +kernel) (pa_cons (pv 0) (pa_cons (pe_bltn (v := .ty "bool") (u := .type "bool") rfl T.f_bool (by decide +kernel) rfl) pa_nil)))) (pe_one (pe_cmpR op_eq (pv 0) (pv 1) (nomark _))))))) (pss_nil))
      (pss_cons (ps_if (pt_val (pe_callB call_isi (by rfl) T.f_isinstance (by decide +kernel) (pa_cons (pv 1) (pa_cons (pe_bltn (v := .ty "str") (u := .type "str") rfl T.f_str (by decide +kernel) rfl) pa_nil)))) (pss_one (ps_ret (pe_and (pe_callB call_isi (by rfl) T.f_isinstance (by decide +kernel) (pa_cons (pv 0) (pa_cons (pe_bltn (v := .ty "str") (u := .type "str") rfl T.f_str (by decide +kernel) rfl) pa_nil))) (pe_one (pe_cmpR op_eq (pv 0) (pv 1) (nomark _)))))) (pss_nil))
      (pss_cons (ps_if (pt_cmpR op_ne (pe_callB call_isi (by rfl) T.f_isinstance (by decide +kernel) (pa_cons (pv 1) (pa_cons (pe_bltn (v := .ty "tuple") (u := .type "tuple") rfl T.f_tuple (by decide +kernel) rfl) pa_nil))) (pe_callB call_isi (by rfl) T.f_isinstance (by decide +kernel) (pa_cons (pv 0) (pa_cons (pe_bltn (v := .ty "tuple") (u := .type "tuple") rfl T.f_tuple (by decide +kernel) rfl) pa_nil))) (nomark _)) (pss_one (ps_ret (pe_bl))) (pss_nil))
      (pss_cons (ps_if (pt_cmpR op_ne (pe_callB call_isi (by rfl) T.f_isinstance (by decide +kernel) (pa_cons (pv 1) (pa_cons (pe_bltn (v := .ty "list") (u := .type "list") rfl T.f_list (by decide +kernel) rfl) pa_nil))) (pe_callB call_isi (by rfl) T.f_isinstance (by decide +kernel) (pa_cons (pv 0) (pa_cons (pe_bltn (v := .ty "list") (u := .type "list") rfl T.f_list (by decide +kernel) rfl) pa_nil))) (nomark _)) (pss_one (ps_ret (pe_bl))) (pss_nil))
      (pss_cons (ps_if (pt_cmpR op_ne (pe_callB call_len_seq (by rfl) T.f_len (by decide +kernel) (pa_cons (pv 0) pa_nil)) (pe_callB call_len_seq (by rfl) T.f_len (by decide +kernel) (pa_cons (pv 1) pa_nil)) (nomark _)) (pss_one (ps_ret (pe_bl))) (pss_nil))
      (pss_one (ps_ret (pe_callB (cr_all rfl) (by rfl) T.f_all (by decide +kernel) (pa_cons (pe_lc (own := [("_law_k", 2)]) (by rfl) sc_L_equal.nd (g := gName 2) (pi_range1 rfl T.f_range (pa_cons (pe_callB call_len_seq (by rfl) T.f_len (by decide +kernel) (pa_cons (pv 1) pa_nil)) pa_nil)) (blkOk_by (own := [("_law_k", 2)]) (N := ["_law_actual", "_law_expected", "_law_k"]) (sc := defScope s_L_equal) (by decide +kernel)) (fun _ _ _ _ _ => pg_name (i := 2) sc_L_equal.nd rfl (.inl rfl) (.inr rfl)) (fun _ _ _ _ _ => pts_nil) (fun _ _ _ _ _ => C8.pe_c ih hr (Nat.le_refl _) rfl (pa_cons (pe_ix (r := rIx K) ix_seq (pv 0) (pv 2) (fun _ _ => rfl)) (pa_cons (pe_ix (r := rIx K) ix_seq (pv 1) (pv 2) (fun _ _ => rfl)) pa_nil)))) pa_nil)))))))))), ?_⟩
    rcases key with ⟨rfl, hf⟩ | ⟨n', p, q, xs, ys, rfl, rfl, rfl, ⟨hp, hq⟩ | ⟨hp, hq⟩, hl, hl2, hs⟩
    · cases a with
      | non => exact ⟨_, rfl, rfl, _, rfl, ite_tt (by decide) ⟨_, rfl, rfl, kk _ (by decide)⟩⟩
      | bl v =>
        refine ⟨_, rfl, rfl, _, rfl, ite_ff (by simp) ?_⟩
        refine ⟨_, rfl, _, _, .type "bool", _, true, rfl, .ty "bool", .base (.bl _), kit_ty (by decide +kernel), true, rfl, iteT ?_⟩
        exact ⟨_, rfl, _, _, .type "bool", _, true, rfl, .ty "bool", .base (.bl _), kit_ty (by decide +kernel), true, rfl, iteT ⟨_, rfl, _, rfl, rfl, kk _ (by simp)⟩⟩
      | int v =>
        refine ⟨_, rfl, rfl, _, rfl, ite_ff (by simp) ?_⟩
        refine ⟨_, rfl, _, _, .type "int", _, false, rfl, .ty "bool", .base (.int _), kit_ty (by decide +kernel), false, rfl, iteF ?_⟩
        refine ⟨_, rfl, _, _, .type "int", _, true, rfl, .ty "int", .base (.int _), kit_ty (by decide +kernel), true, rfl, iteT ?_⟩
        refine ⟨_, rfl, _, _, .type "int", _, true, rfl, .ty "int", .base (.int _), kit_ty (by decide +kernel), true, rfl, iteT ?_⟩
        exact ⟨_, rfl, _, _, .type "int", _, false, rfl, .ty "bool", .base (.int _), kit_ty (by decide +kernel), false, rfl, true, rfl, iteT ⟨_, rfl, _, rfl, rfl, kk _ (by simp)⟩⟩
      | str v =>
        refine ⟨_, rfl, rfl, _, rfl, ite_ff (by simp) ?_⟩
        refine ⟨_, rfl, _, _, .type "str", _, false, rfl, .ty "bool", .base (.str _), kit_ty (by decide +kernel), false, rfl, iteF ?_⟩
        refine ⟨_, rfl, _, _, .type "str", _, false, rfl, .ty "int", .base (.str _), kit_ty (by decide +kernel), false, rfl, iteF ?_⟩
        refine ⟨_, rfl, _, _, .type "str", _, true, rfl, .ty "str", .base (.str _), kit_ty (by decide +kernel), true, rfl, iteT ?_⟩
        exact ⟨_, rfl, _, _, .type "str", _, true, rfl, .ty "str", .base (.str _), kit_ty (by decide +kernel), true, rfl, iteT ⟨_, rfl, _, rfl, rfl, kk _ (by simp)⟩⟩
      | _ => exact hf.elim
    · -- lists
      refine ⟨_, rfl, rfl, _, rfl, ite_ff (by simp) ?_⟩
      refine ⟨_, rfl, _, _, .type "list", _, false, rfl, .ty "bool", .base (.lst hq), kit_ty (by decide +kernel), false, rfl, iteF ?_⟩
      refine ⟨_, rfl, _, _, .type "list", _, false, rfl, .ty "int", .base (.lst hq), kit_ty (by decide +kernel), false, rfl, iteF ?_⟩
      refine ⟨_, rfl, _, _, .type "list", _, false, rfl, .ty "str", .base (.lst hq), kit_ty (by decide +kernel), false, rfl, iteF ?_⟩
      refine ⟨_, rfl, _, _, .type "list", _, false, rfl, .ty "tuple", .base (.lst hq), kit_ty (by decide +kernel), _, rfl, _, _, .type "list", _, false, rfl, .ty "tuple", .base (.lst hp), kit_ty (by decide +kernel), rfl, _, rfl, ite_ff (by decide) ?_⟩
      refine ⟨_, rfl, _, _, .type "list", _, true, rfl, .ty "list", .base (.lst hq), kit_ty (by decide +kernel), _, rfl, _, _, .type "list", _, true, rfl, .ty "list", .base (.lst hp), kit_ty (by decide +kernel), rfl, _, rfl, ite_ff (by decide) ?_⟩
      refine ⟨_, rfl, _, _, rfl, .inl (SqL.of hp), _, rfl, _, _, rfl, .inl (SqL.of hq), rfl, _, rfl, ite_ff (by rw [hl]; simp) ?_⟩
      refine ⟨_, rfl, _, _, rfl, .inl (SqL.of hq), _, rfl, by omega, by omega, fun D3 hD3 => ?_⟩
      refine lc_gen (ρ := ρ) (walk_range0 (n := ys.length)) (by omega) cB (fun _ => some true) (fun ρ' H' m => trivial) (fun i x ρ3 Hz H3 hi m3 y Ny Nn hNy hNn => ?_) hD3 fun ρ3 H3 ys3 m3 r3 hy3 ha3 => ?_
      · obtain ⟨rfl, rfl⟩ := y
        have hx : xs[i]? = some xs[i] := List.getElem?_eq_getElem (by omega)
        have hy : ys[i]? = some ys[i] := List.getElem?_eq_getElem (by omega)
        have h3 := (hs i _ _ hx hy).mono (H' := H3) m3.keep0
        exact ⟨rfl, _, rfl, _, rfl, .inl ⟨p, xs, (i : Int), _, rfl, rfl, SqL.of (m3.at0 hp), atI_nat hx, _, rfl, _, rfl, .inl ⟨q, ys, (i : Int), _, rfl, rfl, SqL.of (m3.at0 hq), atI_nat hy, _, _, rfl, ρ3, h3, fun ρ4 H4 m4 => hNy _ _ _ true rfl rfl m4⟩⟩⟩
      · rw [bools_of ha3] at hy3
        refine ⟨D3, _, rfl, SqL.of hy3, ?_⟩
        rw [all_true]
        exact k _ _ m3
    · -- tuples
      refine ⟨_, rfl, rfl, _, rfl, ite_ff (by simp) ?_⟩
      refine ⟨_, rfl, _, _, .type "tuple", _, false, rfl, .ty "bool", .base (.tup hq), kit_ty (by decide +kernel), false, rfl, iteF ?_⟩
      refine ⟨_, rfl, _, _, .type "tuple", _, false, rfl, .ty "int", .base (.tup hq), kit_ty (by decide +kernel), false, rfl, iteF ?_⟩
      refine ⟨_, rfl, _, _, .type "tuple", _, false, rfl, .ty "str", .base (.tup hq), kit_ty (by decide +kernel), false, rfl, iteF ?_⟩
      refine ⟨_, rfl, _, _, .type "tuple", _, true, rfl, .ty "tuple", .base (.tup hq), kit_ty (by decide +kernel), _, rfl, _, _, .type "tuple", _, true, rfl, .ty "tuple", .base (.tup hp), kit_ty (by decide +kernel), rfl, _, rfl, ite_ff (by decide) ?_⟩
      refine ⟨_, rfl, _, _, .type "tuple", _, false, rfl, .ty "list", .base (.tup hq), kit_ty (by decide +kernel), _, rfl, _, _, .type "tuple", _, false, rfl, .ty "list", .base (.tup hp), kit_ty (by decide +kernel), rfl, _, rfl, ite_ff (by decide) ?_⟩
      refine ⟨_, rfl, _, _, rfl, .inr (SqT.of hp), _, rfl, _, _, rfl, .inr (SqT.of hq), rfl, _, rfl, ite_ff (by rw [hl]; simp) ?_⟩
      refine ⟨_, rfl, _, _, rfl, .inr (SqT.of hq), _, rfl, by omega, by omega, fun D3 hD3 => ?_⟩
      refine lc_gen (ρ := ρ) (walk_range0 (n := ys.length)) (by omega) cB (fun _ => some true) (fun ρ' H' m => trivial) (fun i x ρ3 Hz H3 hi m3 y Ny Nn hNy hNn => ?_) hD3 fun ρ3 H3 ys3 m3 r3 hy3 ha3 => ?_
      · obtain ⟨rfl, rfl⟩ := y
        have hx : xs[i]? = some xs[i] := List.getElem?_eq_getElem (by omega)
        have hy : ys[i]? = some ys[i] := List.getElem?_eq_getElem (by omega)
        have h3 := (hs i _ _ hx hy).mono (H' := H3) m3.keep0
        exact ⟨rfl, _, rfl, _, rfl, .inr (.inl ⟨p, xs, (i : Int), _, rfl, rfl, SqT.of (m3.at0 hp), atI_nat hx, _, rfl, _, rfl, .inr (.inl ⟨q, ys, (i : Int), _, rfl, rfl, SqT.of (m3.at0 hq), atI_nat hy, _, _, rfl, ρ3, h3, fun ρ4 H4 m4 => hNy _ _ _ true rfl rfl m4⟩)⟩)⟩
      · rw [bools_of ha3] at hy3
        refine ⟨D3, _, rfl, SqL.of hy3, ?_⟩
        rw [all_true]
        exact k _ _ m3
end
end Kb
set_option Elab.async false
set_option linter.all false
set_option maxRecDepth 100000
set_option maxHeartbeats 4000000
namespace Kb
open PySem PySem.Spec PyProof.Rows L2 LamX
theorem due_flat {c : Cfg} {m : Mem} {D : Ds} {rq : Rq} : flatE (dueV c m D rq) := by
  cases rq <;> exact True.intro
section
variable {P : Program} {w : World} {K : PySem.W.Frag} {mg : Str → Option Value} {base : Heap}
theorem code_same {K : PySem.W.Frag} {mg : Str → Option Value} (T : Txt K mg) {c : Addr} (h : (fdOf K (He.ga K "_law_same")).code = .ref c) : (He.cT K ("_law_same", none)).1 = c := by
  obtain ⟨oc, od, dV, kV, doc, pm, an, cdv, ct, osl, e, lk, _⟩ := T.F_L_same.ex
  exact He.codeOf_eq (p := ("_law_same", none)) lk h
def sp_Lsame (K : PySem.W.Frag) : Sp := Sp3 fun a b e H Q => ∃ (c : Cfg) (ρ : Ro) (p mo t d : Addr) (m : Mem) (D : Ds) (nb : Nat) (rq : Rq), a = .ref p ∧ b = .ref mo ∧ e = .ref t ∧ H t = some (.tup (reqV rq)) ∧ PairAt K c ρ H p m D true ∧ ModAt c ρ H mo m D true ∧ DAt ρ H d ∧ TabAt (sameP K) ρ H ∧
  OkC c ∧ WF nb m D ∧ Rm nb m.kn.length 101 D ∧ rq.Ok nb ∧ (planM c m D rq).kn.length = m.kn.length ∧ (∀ s ∈ planS c m D rq, stOk nb m.kn.length s) ∧
  ∀ (ρ' : Ro) (H' : Hp), PairAt K c ρ' H' p (planM c m D rq) (run (planS c m D rq) D) true → ModAt c ρ' H' mo (planM c m D rq) (run (planS c m D rq) D) true → DAt ρ' H' d → TabAt (sameP K) ρ' H' → Q (.bl true) H'
theorem sc_L_same : FnScope ["_law_pair_here", "_law_m", "_law_request_here", "_law_due", "_law_steps", "_law_failed", "_law_error", "_law_found"] ["_law_pair_here", "_law_m", "_law_request_here"] (defScope s_L_same) := ⟨rfl, rfl, rfl, by decide +kernel, rfl, by decide +kernel, by decide +kernel⟩
theorem c_L_same (T : Txt K mg) (TB : TabB base mg (He.cT K ("_law_same", none)).1 (sameP K)) : C8.Cal P w K mg base 12 "_law_same" (sp_Lsame K) [] := by
  refine ⟨He.ga K "_law_same", fdOf K (He.ga K "_law_same"), ["_law_pair_here", "_law_m", "_law_request_here"], [], ?_, T.g_Lsame, T.F_L_same.kp, T.F_L_same.bindsN (fun _ _ _ _ _ _ us hl => match us, hl with | [_, _, _], _ => rfl), .nil⟩
  refine fn_okC T.F_L_same sc_L_same len3 (fun cdv A outer s H vs Q E hcd hr h => ?_)
  obtain ⟨c0, rfl, hc0⟩ := hcd
  rw [code_same T hc0] at TB
  obtain ⟨oc, od, dV, kV, doc, pm, an, cdv2, ct, osl, hfd, lk, hcg, hd1, hd2⟩ := T.F_L_power_of.ex
  have hb := T.F_L_power_of.bindsN (ps := ["_law_call"]) (fun _ _ _ _ _ _ us hl => match us, hl with | [_], _ => rfl)
  rw [hfd] at lk hb
  obtain ⟨a, b, e, rfl, c, ρ, p, mo, t, d, m, D, nb, rq, rfl, rfl, rfl, ht, gp, gm, gd, gt, ok, wf, rm, hrq, hkl, hst, k⟩ := h
  refine ⟨_, pss_cons (ps_asg (C8.pe_c (c_L_plan T) hr (by decide) rfl (pa_cons (pv 1) (pa_cons (pv 2) pa_nil))) (pg_tup (n := 2) rfl (pgs_cons (pg_name (i := 3) sc_L_same.nd rfl (.inl rfl)) (pgs_cons (pg_name (i := 4) sc_L_same.nd rfl (.inl rfl)) pgs_nil))))
      (pss_cons (ps_asg (pe_tup (pa_cons (C8.pe_c (c_L_go T) hr (by decide) rfl (pa_cons (pv 1) (pa_cons (pv 4) pa_nil))) (pa_cons (pe_lst (pa_nil)) pa_nil))) (pg_tup (n := 2) rfl (pgs_cons (pg_name (i := 5) sc_L_same.nd rfl (.inl rfl)) (pgs_cons (pg_name (i := 7) sc_L_same.nd rfl (.inr rfl)) pgs_nil))))
      (pss_cons (ps_set (i := 6) sc_L_same.nd rfl (.inl rfl) (pe_lamcall (t := fun _ => tBM K "list" rAppend (tVar 7) (tCons (tCall (sp_Ldo K) [] C8.E0 (tCons (tVar 0) (tCons (tVar 2) tNil))) tNil)) (T := [(sameP K, lamQ)]) (TT := TTpow) (c := c0) (P := sameP K) (k := 9) (Ng := ["_law_call", "e"]) (a := "_law_call") (x := "_law_power_of") rfl T.g_Lpower_of T.F_L_power_of.kp lk hcg hb sc_L_power_of rfl (.inl rfl) (power_gives T) TB rfl (List.mem_singleton.mpr rfl) (fun p hp _ => by cases List.mem_singleton.mp hp; rfl) hr (lamS_by (show lamSB (defScope s_L_same) _ = true from by decide +kernel)) rfl (fun _ _ _ _ _ => rfl) (by intro A2 outer2 s2 H2 E2 f2 c2 hr2; exact pe_bm PySem.F.plainAttrs_list PySem.F.slot_list_append PySem.F.type_list_append mt_append (pv 7) (pa_cons (C8.pe_c (c_L_do T) hr2 (by decide) rfl (pa_cons (pv 0) (pa_cons (pv 2) pa_nil))) pa_nil))))
      (pss_cons (ps_if (pt_cmpR op_notN (pv 5) (pe_non) (nomark _)) (pss_one (ps_ret (pe_cmpR op_eq (pv 6) (pe_tup (pa_cons (pe_str) (pa_cons (pv 5) pa_nil))) (nomark _)))) (pss_nil))
      (pss_one (ps_ret (pe_and (pe_cmpR op_isN (pv 6) (pe_non) (nomark _)) (pe_one (C8.pe_c (c_L_equal T 8) hr (by decide) rfl (pa_cons (pv 7) (pa_cons (pe_lst (pa_cons (pv 3) pa_nil)) pa_nil)))))))))), ?_⟩
  refine ⟨_, rfl, _, rfl, _, _, rfl, c, ρ, mo, t, m, D, true, nb, rq, rfl, rfl, ht, gm, ok, wf, rm.l2, rm.l1, hrq, fun ρ1 H1 t1 q1 ys1 gm1 m1 ht1 hq1 r1 ha1 hl1 => ⟨t1, _, rfl, SqT.of ht1, rfl, _, _, rfl, _, _, rfl, rfl, ?_⟩⟩
  have gp1 := gp.mv m1 smN sm0
  have gd1 := gd.mv m1 (fun z => absurd z.2 (by decide))
  have gt1 := gt.mv m1 (fun z => absurd z.2 (by decide)) (fun z => absurd z.2 (by decide))
  refine ⟨_, rfl, _, rfl, _, _, rfl, c, ρ1, mo, q1, planM c m D rq, D, true, nb, planS c m D rq, ys1, rfl, rfl, gm1, hq1, r1, ha1, hl1, by rw [hkl]; exact rm, by rw [hkl]; exact hst, fun ρ2 H2 gm2 m2 => ⟨(show (0 : Nat) ≤ sizeLine by decide), fun qf hqf => ⟨(show (2 : Nat) ≤ sizeLine by decide), fun tt htt => ⟨tt, _, rfl, SqT.of upd_same, rfl, _, _, rfl, _, _, rfl, rfl, ?_⟩⟩⟩⟩
  have gp2 := gp1.mv m2 smN sm0
  have gd2 := gd1.mv m2 (fun z => absurd z.2 (by decide))
  have gt2 := gt1.mv m2 (fun z => absurd z.2 (by decide)) (fun z => absurd z.2 (by decide))
  have w2 : Mv S0 ρ2 H2 _ _ := (Mv.refl.new hqf 5000 (.lst [])).new htt 0 (.tup [.non, .ref qf])
  have hf2 : upd H2 qf (.lst []) qf = some (.lst []) := upd_same
  have hf3 := (upd_ne (o := .tup [.non, .ref qf]) (ne_of_none hf2 htt)).trans hf2
  have rf3 : rs (rs ρ2 qf 5000) tt 0 qf = 5000 := (rs_ne (ne_of_none hf2 htt)).trans rs_same
  have gp3 := gp2.mv0 w2
  have gm3 := gm2.mv0 w2
  have gd3 := gd2.mv w2 (fun z => z)
  have gt3 := gt2.mv w2 (fun z => z) (fun z => z)
  have ht3 := w2.tups _ _ (m2.tups _ _ (m1.tups _ _ ht))
  generalize upd (upd H2 qf (.lst [])) tt (.tup [.non, .ref qf]) = H3 at *
  generalize rs (rs ρ2 qf 5000) tt 0 = ρ3 at *
  refine ⟨gt3.tabs, fun H4 eN T4 => ?_⟩
  obtain ⟨ρ4, ex, gt4⟩ := tab_ex gt3 eN T4
  have gp4 := gp3.ex ex
  have gm4 := gm3.ex ex
  have gd4 := gd3.ex ex
  have ht4 := ex.tups _ _ ht3
  have hf4 := ex.k hf3 pl_lst
  have rf4 := ex.ro hf3 pl_lst rf3
  refine ⟨_, rfl, .inl ⟨rfl, _, SqL.of hf4⟩, _, rfl, _, rfl, _, _, rfl, c, ρ4, p, t, m, D, nb, rq, rfl, rfl, ht4, gp4, ok, wf, rm.less (by decide), hrq, fun ρ5 H5 gp5 m5 => ?_⟩
  have gm5 := gm4.mv m5 spN sp0
  have gd5 := gd4.mv m5 (fun z => absurd z.2 (by decide))
  have gt5 := gt4.mv m5 (fun z => absurd z.2 (by decide)) (fun z => absurd z.2 (by decide))
  have hf5 := m5.keeps hf4 rf4 (fun z => absurd z.2 (by decide))
  have rf5 := m5.ro hf4 rf4
  refine ⟨_, _, _, rfl, rfl, hf5, (show (0 : Nat) < sizeLine by decide), ?_⟩
  have w6 : Mv (S1 5000) ρ5 H5 ρ5 _ := Mv.refl.wr hf5 (fun xs z => by cases z) (.inr rf5) (.lst ([] ++ [dueV c m D rq]))
  have gp6 := gp5.mv w6 (fun i _ _ => s1N (by omega)) (s1N (by decide))
  have gm6 := gm5.mv w6 (fun i _ _ => s1N (by omega)) (s1N (by decide))
  have gd6 := gd5.mv w6 (s1N (by decide))
  have gt6 := gt5.mv w6 (s1N (by decide)) (s1N (by decide))
  have hf6 : upd H5 qf (.lst ([] ++ [dueV c m D rq])) qf = some (.lst ([] ++ [dueV c m D rq])) := upd_same
  generalize upd H5 qf (.lst ([] ++ [dueV c m D rq])) = H6 at *
  refine ⟨_, rfl, rfl, _, rfl, ite_ff (by decide) ?_⟩
  refine ⟨_, rfl, rfl, _, rfl, ite_tt (by decide) ?_⟩
  refine ⟨_, rfl, _, rfl, (show (1 : Nat) ≤ sizeLine by decide), fun ql hql => ?_⟩
  have w7 : Mv S0 ρ5 H6 _ _ := Mv.refl.new hql 0 (.lst [dueV c m D rq])
  have hl7 : upd H6 ql (.lst [dueV c m D rq]) ql = some (.lst [dueV c m D rq]) := upd_same
  refine ⟨_, _, rfl, rs ρ5 ql 0, .inr ⟨qf, ql, _, _, rfl, rfl, .inl ⟨w7.at0 hf6, hl7⟩, rfl, (show (1 : Nat) ≤ 10000 by decide), fun i x y hx hy => ?_⟩, fun ρ8 H8 m8 => ?_⟩
  · have e := hx.symm.trans hy
    cases i with
    | zero =>
      cases hx
      cases hy
      exact eqv_flat due_flat
    | succ i => simp at hx
  · have w8 := w7.trans m8
    exact k _ _ (gp6.mv0 w8) (gm6.mv0 w8) (gd6.mv w8 (fun z => z)) (gt6.mv w8 (fun z => z) (fun z => z))
end
end Kb
set_option Elab.async false
set_option linter.all false
set_option maxRecDepth 100000
set_option maxHeartbeats 4000000
/-! What a restart learns, block by block. -/
namespace Kb
open PySem PySem.Spec PyProof.Rows L2
theorem lookup_of {b s : Nat} : ∀ {L : List (Nat × Nat)}, (L.map (·.1)).Nodup → (b, s) ∈ L → L.lookup b = some s
  | [], _, h => absurd h List.not_mem_nil
  | p :: l, nd, h => by
    rw [List.map_cons, List.nodup_cons] at nd
    rw [List.lookup_cons]
    rcases List.mem_cons.mp h with e | m
    · rw [← e, beq_self_eq_true]
    · have q : b ≠ p.1 := fun z => nd.1 (by rw [← z]; exact List.mem_map.mpr ⟨_, m, rfl⟩)
      have e : (b == p.1) = false := by simpa using q
      rw [e]
      exact lookup_of nd.2 m
theorem best_slot {rl : List (Option Rec)} {s : Nat} : s ∈ (bestL rl).map (·.2) ↔ isBest rl s = true := by
  have bi := bestI rl rl.length
  rw [← bestL_to] at bi
  constructor
  · intro h
    obtain ⟨⟨b, s'⟩, hp, e⟩ := List.mem_map.mp h
    have e : s' = s := e
    subst e
    obtain ⟨r, h1, h2, h3, _⟩ := bi.mem _ hp
    have h2 : r.b = b := h2
    have h1 : recAt rl s' = some r := h1
    rw [isBest_eq h1, h3, h2, lookup_of bi.nd hp]
    simp
  · intro h
    unfold isBest at h
    cases q : recAt rl s with
    | none => rw [q] at h; cases h
    | some r =>
      rw [q] at h
      have h2 := of_decide_eq_true (Bool.and_eq_true_iff.mp h).2
      exact List.mem_map.mpr ⟨_, lookup_mem h2, rfl⟩
def entB (rl : List (Option Rec)) (now : Int) (s : Nat) : Option Ent := (recAt rl s).map fun r => ⟨r, now, now, 1⟩
def knB (rl : List (Option Rec)) (now : Int) (i : Nat) : Kn := ((bestL rl).take i).foldl (fun kn p => kn.set p.2 (entB rl now p.2)) (nones rl.length)
theorem foldB_get {rl : List (Option Rec)} {now : Int} : ∀ (L : List (Nat × Nat)) (kn : Kn) (s : Nat), s < kn.length → (L.foldl (fun kn p => kn.set p.2 (entB rl now p.2)) kn)[s]? = if s ∈ L.map (·.2) then some (entB rl now s) else kn[s]?
  | [], kn, s, _ => by simp
  | p :: l, kn, s, h => by
    rw [List.foldl_cons, foldB_get l _ s (by rw [List.length_set]; exact h), List.map_cons]
    by_cases m : s ∈ l.map (·.2)
    · rw [if_pos m, if_pos (List.mem_cons_of_mem _ m)]
    · rw [if_neg m, List.getElem?_set]
      by_cases q : p.2 = s
      · rw [if_pos q, if_pos (by rw [q]; exact h), if_pos (by rw [q]; exact List.mem_cons_self), q]
      · rw [if_neg q, if_neg (fun z => (List.mem_cons.mp z).elim (fun y => q y.symm) m)]
theorem foldB_len {rl : List (Option Rec)} {now : Int} : ∀ (L : List (Nat × Nat)) (kn : Kn), (L.foldl (fun kn p => kn.set p.2 (entB rl now p.2)) kn).length = kn.length
  | [], kn => rfl
  | p :: l, kn => by rw [List.foldl_cons, foldB_len l, List.length_set]
theorem nones_len {n : Nat} : (nones n).length = n := by
  unfold nones
  rw [List.length_replicate]
theorem knB_len {rl : List (Option Rec)} {now : Int} {i : Nat} : (knB rl now i).length = rl.length := by
  unfold knB
  rw [foldB_len, nones_len]
theorem knB_succ {rl : List (Option Rec)} {now : Int} {i : Nat} {p : Nat × Nat} (h : (bestL rl)[i]? = some p) : knB rl now (i + 1) = (knB rl now i).set p.2 (entB rl now p.2) := by
  unfold knB
  rw [List.take_succ, h, List.foldl_append]
  rfl
theorem knB_all {rl : List (Option Rec)} {now : Int} : knB rl now (bestL rl).length = knOf rl now := by
  apply List.ext_getElem?
  intro s
  by_cases hs : s < rl.length
  · unfold knB
    rw [List.take_length, foldB_get _ _ s (by rw [nones_len]; exact hs), ← knTo_all, knTo_get hs, if_pos hs]
    unfold entOf
    by_cases hb : isBest rl s = true
    · rw [if_pos (best_slot.mpr hb)]
      unfold entB
      cases q : recAt rl s with
      | none => rfl
      | some r =>
        show _ = some (if isBest rl s = true then some (⟨r, now, now, 1⟩ : Ent) else none)
        rw [if_pos hb]
        rfl
    · rw [if_neg (fun z => hb (best_slot.mp z))]
      have e : (nones rl.length)[s]? = some none := by
        unfold nones
        rw [List.getElem?_replicate, if_pos hs]
      rw [e]
      cases q : recAt rl s with
      | none => rfl
      | some r =>
        show _ = some (if isBest rl s = true then some (⟨r, now, now, 1⟩ : Ent) else none)
        rw [if_neg hb]
  · rw [List.getElem?_eq_none (by rw [knB_len]; omega), List.getElem?_eq_none (by rw [← knTo_all, knTo_len]; omega)]
theorem knOf_len {rl : List (Option Rec)} {now : Int} : (knOf rl now).length = rl.length := by rw [← knTo_all, knTo_len]
theorem knOf_get {rl : List (Option Rec)} {now : Int} {s : Nat} {r : Rec} (h1 : recAt rl s = some r) (h2 : isBest rl s = true) : Kn.at (knOf rl now) s = some ⟨r, now, now, 1⟩ := by
  have hs : s < rl.length := (List.getElem?_eq_some_iff.mp (recAt_some h1)).1
  unfold Kn.at
  rw [← knTo_all, knTo_get hs, if_pos hs]
  unfold entOf
  rw [h1]
  show (if isBest rl s = true then some (⟨r, now, now, 1⟩ : Ent) else none) = _
  rw [if_pos h2]
/-- the best records' blocks are the dirty blocks -/
theorem best_blocks {rl : List (Option Rec)} {now : Int} {nb : Nat} (h : ∀ s r, recAt rl s = some r → r.b < nb) (b : Nat) : b ∈ (bestL rl).map (·.1) ↔ b ∈ dirtyBlocks nb (knOf rl now) := by
  have bi := bestI rl rl.length
  rw [← bestL_to] at bi
  rw [dirtyB_mem (knOf_kb h)]
  constructor
  · intro m
    obtain ⟨⟨b', s⟩, hp, e⟩ := List.mem_map.mp m
    have e : b' = b := e
    subst e
    obtain ⟨r, h1, h2, h3, _⟩ := bi.mem _ hp
    exact ⟨s, _, knOf_get h1 (best_slot.mp (List.mem_map.mpr ⟨_, hp, rfl⟩)), h3, h2⟩
  · rintro ⟨s, e, h1, h2, h3⟩
    obtain ⟨_, r, z1, z2, rfl⟩ := knOf_at h1
    unfold isBest at z2
    rw [z1] at z2
    have z3 := of_decide_eq_true (Bool.and_eq_true_iff.mp z2).2
    have h3 : r.b = b := h3
    rw [h3] at z3
    exact List.mem_map.mpr ⟨_, lookup_mem z3, rfl⟩
theorem Mv.relab {S : Nat → Prop} {ρ ρ' : Ro} {H H' : Hp} {d : Addr} (m : Mv S ρ H ρ' H') (hd : H d = none) (k : Nat) : Mv S ρ H (rs ρ' d k) H' :=
  ⟨m.keep, fun a o h => (rs_ne (ne_of_none h hd)).trans (m.role a o h), m.tups, m.dom⟩
/-- the law's restart under way -/
structure RSt (c : Cfg) (ρ0 : Ro) (H0 : Hp) (p qr d qf : Addr) (rl : List (Option Rec)) (vs : List V) (dO : HO) (ρ : Ro) (H : Hp) (m : Mem) (D : Ds) (fl : List Nat) : Prop where
  g : ModAt c ρ H p m D true
  m : Mv SM ρ0 H0 ρ H
  hqr : H qr = some (.lst vs)
  rr : ρ qr = 0
  ha : All cR H rl vs
  hd : H d = some dO
  rd : ρ d = 6000
  nt : ∀ xs, dO ≠ .tup xs
  hqf : H qf = some (.lst (natV fl))
  rf : ρ qf = 5000
  nf : H0 qf = none
  nd : H0 d = none
section
variable {c : Cfg} {ρ0 ρ ρ' : Ro} {H0 H H' : Hp} {p qr d qf : Addr} {rl : List (Option Rec)} {vs : List V} {dO : HO} {m m' : Mem} {D D' : Ds} {fl : List Nat}
theorem RSt.step (h : RSt c ρ0 H0 p qr d qf rl vs dO ρ H m D fl) (s : Mv SM ρ H ρ' H') (g : ModAt c ρ' H' p m' D' true) : RSt c ρ0 H0 p qr d qf rl vs dO ρ' H' m' D' fl :=
  ⟨g, h.m.trans s, s.keeps h.hqr h.rr sm0, s.ro h.hqr h.rr, h.ha.mono s.tups, s.keeps h.hd h.rd (fun (z : SM 6000) => absurd z.2 (by decide)), s.ro h.hd h.rd, h.nt, s.keeps h.hqf h.rf (fun (z : SM 5000) => absurd z.2 (by decide)), s.ro h.hqf h.rf, h.nf, h.nd⟩
theorem RSt.mem (h : RSt c ρ0 H0 p qr d qf rl vs dO ρ H m D fl) (e : m = m') : RSt c ρ0 H0 p qr d qf rl vs dO ρ H m' D fl := e ▸ h
theorem RSt.app (h : RSt c ρ0 H0 p qr d qf rl vs dO ρ H m D fl) (i : Nat) : RSt c ρ0 H0 p qr d qf rl vs dO ρ (upd H qf (.lst (natV fl ++ [.int (i : Int)]))) m D (fl ++ [i]) := by
  have s : Mv (S1 5000) ρ H ρ (upd H qf (.lst (natV fl ++ [.int (i : Int)]))) := Mv.refl.wr h.hqf (fun xs z => by cases z) (.inr h.rf) _
  refine ⟨h.g.mv s (fun i _ _ => s1N (by omega)) (s1N (by decide)), h.m.wr h.hqf (fun xs z => by cases z) (.inl h.nf) _, s.keeps h.hqr h.rr (s1N (by decide)), h.rr, h.ha.mono s.tups, s.keeps h.hd h.rd (s1N (by decide)), h.rd, h.nt, ?_, h.rf, h.nf, h.nd⟩
  rw [upd_same]
  unfold natV
  rw [List.map_append]
  rfl
theorem RSt.setd (h : RSt c ρ0 H0 p qr d qf rl vs dO ρ H m D fl) (o : HO) (nt : ∀ xs, o ≠ .tup xs) : RSt c ρ0 H0 p qr d qf rl vs o ρ (upd H d o) m D fl := by
  have s : Mv (S1 6000) ρ H ρ (upd H d o) := Mv.refl.wr h.hd h.nt (.inr h.rd) _
  exact ⟨h.g.mv s (fun i _ _ => s1N (by omega)) (s1N (by decide)), h.m.wr h.hd h.nt (.inl h.nd) _, s.keeps h.hqr h.rr (s1N (by decide)), h.rr, h.ha.mono s.tups, upd_same, h.rd, nt, s.keeps h.hqf h.rf (s1N (by decide)), h.rf, h.nf, h.nd⟩
end
end Kb
set_option Elab.async false
set_option linter.all false
set_option maxRecDepth 100000
set_option maxHeartbeats 4000000
namespace Kb
open PySem PySem.Spec PyProof.Rows L2
section
variable {P : Program} {w : World} {K : PySem.W.Frag} {mg : Str → Option Value} {base : Heap}
def sp_Lrestart : Sp := Sp3 fun a b e H Q => ∃ (c : Cfg) (ρ : Ro) (p t1 t2 : Addr) (m : Mem) (D : Ds) (nb : Nat) (on : Bool), a = .ref p ∧ b = .ref t1 ∧ e = .ref t2 ∧ H t1 = some (.tup []) ∧ H t2 = some (.tup []) ∧ ModAt c ρ H p m D on ∧
  m.kn.length = D.fast.sy.length ∧ (∀ s r, recAt D.fast.sy s = some r → r.b < nb) ∧
  ∀ (ρ' : Ro) (H' : Hp) (q : Addr), ModAt c ρ' H' p (restartM m D) (restartD D) true → Mv SM ρ H ρ' H' → ρ' q = 0 → H' q = some (.lst (natV (dirtyBlocks nb (restartM m D).kn))) → Q (.ref q) H'
theorem sc_L_restart : FnScope ["_law_m", "_law_slow_kept", "_law_fast_kept", "_law_records", "_law_now", "_law_best_here", "_law_freed", "_law_slot_here", "_law_block"] ["_law_m", "_law_slow_kept", "_law_fast_kept"] (defScope s_L_restart) := ⟨rfl, rfl, rfl, by decide +kernel, rfl, by decide +kernel, by decide +kernel⟩
theorem c_L_restart (T : Txt K mg) : C8.Cal P w K mg base 2 "_law_restart" (sp_Lrestart) [] := by
  refine cal_of T.F_L_restart T.g_Lrestart sc_L_restart len3 (fun _ _ _ _ _ _ us hl => match us, hl with | [_, _, _], _ => rfl) (fun cdv A outer s H vs Q E hr h => ?_)
  obtain ⟨a, b, e, rfl, c, ρ, p, t1, t2, m, D, nb, on, rfl, rfl, rfl, ht1, ht2, ⟨A, h⟩, hkl, hrb, k⟩ := h
  have hk8 := h.kn.1
  rw [hkl] at hk8
  refine ⟨_, pss_cons (ps_expr (C8.pe_c (c_L_fail T) hr (by decide) rfl (pa_cons (pe_dget (hu_of hr) (pv 0) (pe_str) (fun _ _ => rfl)) (pa_cons (pv 1) pa_nil))))
      (pss_cut (ps_asg (pe_tup (pa_cons (pe_bl) (pa_cons (pe_int) (pa_cons (pe_dnewK) pa_nil)))) (pg_tup (n := 3) rfl (pgs_cons (pg_sub (pv 0) (pe_str) (set_dict (hu_of hr))) (pgs_cons (pg_sub (pv 0) (pe_str) (set_dict (hu_of hr))) (pgs_cons (pg_sub (pv 0) (pe_str) (set_dict (hu_of hr))) pgs_nil)))))
      (pss_cons (ps_if (pt_cmpR op_isN (pe_dget (hu_of hr) (pv 0) (pe_str) (fun _ _ => rfl)) (pe_non) (nomark _)) (pss_one (ps_ret (pe_lst (pa_nil)))) (pss_nil))
      (pss_cons (ps_expr (C8.pe_c (c_L_fail T) hr (by decide) rfl (pa_cons (pe_dget (hu_of hr) (pv 0) (pe_str) (fun _ _ => rfl)) (pa_cons (pv 2) pa_nil))))
      (pss_cons (ps_par (i := 3) (j := 4) (by rfl) sc_L_restart.nd rfl rfl (by decide) rfl rfl (pa_cons (pe_callTy call_list_of (by rfl) T.f_list (by decide +kernel) (pa_cons (pe_ix (r := rIxL K) ix_list (pe_dget (hu_of hr) (pv 0) (pe_str) (fun _ _ => rfl)) (pe_int) (fun _ _ => rfl)) pa_nil)) (pa_cons (pe_op op_sub (pe_dget (hu_of hr) (pv 0) (pe_str) (fun _ _ => rfl)) (pe_int)) pa_nil)) (by rfl))
      (pss_cut (ps_asg (pe_op op_add (pe_ix (r := rIxL K) ix_list (pe_ix (r := rIxL K) ix_list (pe_dget (hu_of hr) (pv 0) (pe_str) (fun _ _ => rfl)) (pe_int) (fun _ _ => rfl)) (pe_int) (fun _ _ => rfl)) (pe_callB call_len_seq (by rfl) T.f_len (by decide +kernel) (pa_cons (pv 3) pa_nil))) (pg_sub (pe_ix (r := rIxL K) ix_list (pe_dget (hu_of hr) (pv 0) (pe_str) (fun _ _ => rfl)) (pe_int) (fun _ _ => rfl)) (pe_int) set_list))
      (pss_cons (ps_par (i := 5) (j := 6) (by rfl) sc_L_restart.nd rfl rfl (by decide) rfl rfl (pa_cons (C8.pe_c (c_L_best T) hr (by decide) rfl (pa_cons (pv 3) pa_nil)) (pa_cons (pe_lst (pa_nil)) pa_nil)) (by rfl))
      (pss_cut (ps_for PassesOwn.never rfl (pi_range1 rfl T.f_range (pa_cons (pe_callB call_len_seq (by rfl) T.f_len (by decide +kernel) (pa_cons (pv 3) pa_nil)) pa_nil)) (pg_name (i := 7) sc_L_restart.nd rfl (.inl rfl)) (pss_one (ps_if (pt_cmpR op_notN (pe_ix (r := rIxL K) ix_list (pv 3) (pv 7) (fun _ _ => rfl)) (pe_non) (nomark _)) (pss_cons (ps_dput (hu_of hr) (pv 0) (pe_str) (pe_callB (call_max2 rfl) (by rfl) T.f_max (by decide +kernel) (pa_cons (pe_dget (hu_of hr) (pv 0) (pe_str) (fun _ _ => rfl)) (pa_cons (pe_op op_add (pe_ix (r := rIxT K) ix_tup (pe_ix (r := rIxL K) ix_list (pv 3) (pv 7) (fun _ _ => rfl)) (pe_int) (fun _ _ => rfl)) (pe_int)) pa_nil))) rfl)
      (pss_one (ps_if (PW.pt (pw_and (pt_val (pe_ix (r := rIxT K) ix_tup (pe_ix (r := rIxL K) ix_list (pv 3) (pv 7) (fun _ _ => rfl)) (pe_int) (fun _ _ => rfl))) (pw_and1 (pt_cmpR op_ne (pe_dget (hu_of hr) (pv 5) (pe_ix (r := rIxT K) ix_tup (pe_ix (r := rIxL K) ix_list (pv 3) (pv 7) (fun _ _ => rfl)) (pe_int) (fun _ _ => rfl)) (fun _ _ => rfl)) (pv 7) (nomark _))))) (pss_cons (ps_expr (pe_bm PySem.F.plainAttrs_list PySem.F.slot_list_append PySem.F.type_list_append mt_append (pv 6) (pa_cons (pv 7) pa_nil)))
      (pss_one (ps_expr (C8.pe_c (c_L_put T) hr (by decide) rfl (pa_cons (pe_dget (hu_of hr) (pv 0) (pe_str) (fun _ _ => rfl)) (pa_cons (pv 7) (pa_cons (pe_non) pa_nil))))))) (pss_nil)))) (pss_nil))))
      (pss_cut (ps_lock (ps_for PassesOwn.never rfl (pi_keys (pv 5)) (pg_name (i := 8) sc_L_restart.nd rfl (.inl rfl)) (pss_one (ps_dput (hu_of hr) (pe_dget (hu_of hr) (pv 0) (pe_str) (fun _ _ => rfl)) (pe_dget (hu_of hr) (pv 5) (pv 8) (fun _ _ => rfl)) (pe_lst (pa_cons (pe_ix (r := rIxL K) ix_list (pv 3) (pe_dget (hu_of hr) (pv 5) (pv 8) (fun _ _ => rfl)) (fun _ _ => rfl)) (pa_cons (pv 4) (pa_cons (pv 4) (pa_cons (pe_int) pa_nil))))) rfl))))
      (pss_cut (ps_if (pt_cmpR (op_neD hr.units) (pv 6) (pe_lst (pa_nil)) (nomark _)) (pss_one (ps_expr (C8.pe_c (c_L_sync T) hr (by decide) rfl (pa_cons (pe_dget (hu_of hr) (pv 0) (pe_str) (fun _ _ => rfl)) pa_nil)))) (pss_nil))
      (pss_one (ps_ret (pe_callB (call_sortedDI rfl) (by rfl) T.f_sorted (by decide +kernel) (pa_cons (pv 5) pa_nil))))))))))))), ?_⟩
  refine ⟨_, rfl, p, _, rfl, h.g "slow" _ rfl, _, rfl, _, _, rfl, Int, cI, 2010, ρ, A.s, t1, D.slow, rfl, rfl, ht1, h.slow, fun ρ1 H1 d1 m1 => ?_⟩
  have g1 := h.slow' d1 m1
  have m1 := m1.mono (S' := SM) (sd_sm (by decide) (by decide))
  refine ⟨fun σ' H' => σ' = [some (.ref p), some (.ref t1), some (.ref t2), none, none, none, none, none, none] ∧ ∃ (ρ' : Ro) (A' : MA), ModS c ρ' H' p A' ⟨nones D.fast.sy.length, 1, m.begun, m.hits⟩ { D with slow := D.slow.fail0 } true ∧ Mv SM ρ H ρ' H', ?_, ?_⟩
  · refine fun q hq => ⟨(show (3 : Nat) ≤ sizeLine by decide), fun t ht => ⟨t, _, rfl, SqT.of upd_same, rfl, ?_⟩⟩
    have w2 : Mv S0 ρ1 H1 _ _ := (Mv.refl.new hq 2030 (.dK [])).new ht 0 (.tup [.bl true, .int 1, .ref q])
    have hq2 : upd H1 q (.dK []) q = some (.dK []) := upd_same
    have hq3 := (upd_ne (o := .tup [.bl true, .int 1, .ref q]) (ne_of_none hq2 ht)).trans hq2
    have rq3 : rs (rs ρ1 q 2030) t 0 q = 2030 := (rs_ne (ne_of_none hq2 ht)).trans rs_same
    have g2 := g1.mv0 w2
    have npq : p ≠ q := ne_of g2.obj hq3 (by intro z; cases z)
    refine ⟨_, _, rfl, _, rfl, p, _, rfl, DPut.k (k := .inr "on") g2.obj (show (11 : Nat) < sizeLine by decide), ?_⟩
    obtain ⟨g3, m3⟩ := g2.obj' m.turn m.begun m.hits true
    refine ⟨_, _, rfl, _, rfl, p, _, rfl, DPut.k (k := .inr "turn") g3.obj (show (11 : Nat) < sizeLine by decide), ?_⟩
    obtain ⟨g4, m4⟩ := g3.obj' 1 m.begun m.hits true
    refine ⟨_, _, rfl, _, rfl, p, _, rfl, DPut.k (k := .inr "known") g4.obj (show (11 : Nat) < sizeLine by decide), ?_⟩
    have hq4 := m4.keeps (m3.keeps hq3 rq3 (s1N (by decide))) rq3 (s1N (by decide))
    obtain ⟨g5, m5⟩ := g4.dict' (k := q) (kn := nones D.fast.sy.length) ⟨by rw [nones_len]; exact hk8, _, _, know_nil hq4 rq3⟩ 1 m.begun m.hits true
    exact ⟨rfl, rfl, _, _, g5, (m1.trans (w2.mono s0_sp)).trans (((m3.mono (s1_sm (by decide) (by decide))).trans (m4.mono (s1_sm (by decide) (by decide)))).trans (m5.mono (s1_sm (by decide) (by decide))))⟩
  rintro σ2 H2 ⟨rfl, ρ2, A2, g2, m2⟩
  refine ⟨_, rfl, p, _, rfl, g2.g "fast" _ rfl, rfl, _, rfl, ite_ff (by simp) ?_⟩
  refine ⟨_, rfl, p, _, rfl, g2.g "fast" _ rfl, _, rfl, _, _, rfl, Option Rec, cR, 2020, ρ2, A2.f, t2, D.fast, rfl, rfl, m2.tups _ _ ht2, g2.fast, fun ρ3 H3 d3 m3 => ?_⟩
  have g3 := g2.fast' d3 m3
  have m03 := m2.trans (m3.mono (S' := SM) (sd_sm (by decide) (by decide)))
  obtain ⟨L, w3⟩ := g3.fast.mw
  obtain ⟨vs, hv, qv⟩ := w3.g.sh
  have hvl : D.fast.sy.length = vs.length := qv.len
  refine ⟨_, rfl, p, _, rfl, g3.g "fast" _ rfl, A2.f, _, _, _, rfl, rfl, SqL.of w3.hd, rfl, L.a1, vs, rfl, .inl (SqL.of hv), fun qr hqr => ?_⟩
  have w4 : Mv S0 ρ3 H3 _ _ := Mv.refl.new hqr 0 (.lst vs)
  have g4 := g3.mv0 w4
  have hqr4 : upd H3 qr (.lst vs) qr = some (.lst vs) := upd_same
  have rr4 : rs ρ3 qr 0 qr = 0 := rs_same
  have qv4 := qv.mono w4.tups
  have m04 := m03.trans (w4.mono (S' := SM) s0_sp)
  generalize upd H3 qr (.lst vs) = H4 at *
  generalize rs ρ3 qr 0 = ρ4 at *
  refine ⟨_, rfl, p, _, rfl, g4.g "begun" _ rfl, _, _, rfl, rfl, _, _, rfl, ?_⟩
  obtain ⟨L4, x4⟩ := g4.fast.mw
  refine ⟨fun σ' H' => σ' = [some (.ref p), some (.ref t1), some (.ref t2), some (.ref qr), some (.int (m.begun - 1)), none, none, none, none] ∧ ModS c ρ4 H' p A2 ⟨nones D.fast.sy.length, 1, m.begun, m.hits⟩ ⟨D.slow.fail0, { D.fast.fail0 with tr := D.fast.tr + D.fast.sy.length }⟩ true ∧ Mv SM ρ H ρ4 H' ∧ H' qr = some (.lst vs) ∧ All cR H' D.fast.sy vs, ?_, ?_⟩
  · refine ⟨_, rfl, p, _, rfl, g4.g "fast" _ rfl, A2.f, _, _, _, rfl, rfl, SqL.of x4.hd, rfl, L4.a4, _, _, _, rfl, rfl, SqL.of x4.g.ta, rfl, _, rfl, _, _, rfl, .inl (SqL.of hqr4), _, _, rfl, rfl, _, rfl, p, _, rfl, g4.g "fast" _ rfl, A2.f, _, _, _, rfl, rfl, SqL.of x4.hd, rfl, L4.a4, _, _, 0, rfl, rfl, x4.g.ta, rfl, ?_⟩
    have x5 := x4.tal (D.fast.tr + vs.length) D.fast.tw D.fast.ts
    have g5 := g4.fast' x5.at_ x5.m
    have m5 := x5.m.mono (S' := SM) (sd_sm (by decide) (by decide))
    have e : ({ D.fast.fail0 with tr := D.fast.tr + D.fast.sy.length } : Dk (Option Rec)) = { D.fast.fail0 with tr := D.fast.tr + vs.length } := by rw [hvl]
    rw [e]
    exact ⟨rfl, g5, m04.trans m5, m5.keeps hqr4 rr4 sm0, qv4.mono m5.tups⟩
  rintro σ5 H5 ⟨rfl, g5, m05, hqr5, qv5⟩
  generalize hF1 : ({ D.fast.fail0 with tr := D.fast.tr + D.fast.sy.length } : Dk (Option Rec)) = F1 at g5
  have f1s : F1.sh = D.fast.sy := by rw [← hF1]; rfl
  have f1w : F1.wt = [] := by rw [← hF1]; rfl
  generalize hrl : D.fast.sy = rl at *
  refine ⟨_, rfl, _, rfl, qr, rl, vs, ρ4, rfl, hqr5, qv5, by omega, fun d ρ6 H6 hd m6 r6 hd6 => ⟨(show (0 : Nat) ≤ sizeLine by decide), fun qf hqf => ⟨_, _, rfl, ?_⟩⟩⟩
  have m6' := m6.relab hd 6000
  have rd6 : rs ρ6 d 6000 d = 6000 := rs_same
  have g6 := g5.mv0 m6'
  have w7 : Mv S0 (rs ρ6 d 6000) H6 _ _ := Mv.refl.new hqf 5000 (.lst [])
  have m06 := m05.trans (m6'.mono (S' := SM) s0_sp)
  have hd0 : H d = none := m05.dom d hd
  have hqf0 : H qf = none := m06.dom qf hqf
  have R7 : RSt c ρ H p qr d qf rl vs (.dK (bestV (bestL rl))) _ (upd H6 qf (.lst [])) ⟨nones rl.length, 1, m.begun, m.hits⟩ ⟨D.slow.fail0, F1⟩ [] :=
    ⟨⟨A2, g6.mv0 w7⟩, m06.trans (w7.mono s0_sp), w7.at0 (m6'.at0 hqr5), w7.ro (m6'.at0 hqr5) (m6'.ro hqr5 rr4), (qv5.mono m6'.tups).mono w7.tups, w7.at0 hd6, w7.ro hd6 rd6, (fun xs z => by cases z), upd_same, rs_same, hqf0, hd0⟩
  generalize upd H6 qf (.lst []) = H7 at R7 ⊢
  generalize rs (rs ρ6 d 6000) qf 5000 = ρ7 at R7
  clear w7 m6' g6 m06 m6 hd6 r6 rd6
  -- the records, slot by slot
  refine ⟨fun σ' H' => ∃ (x7 x8 : Option V) (ρ' : Ro), σ' = [some (.ref p), some (.ref t1), some (.ref t2), some (.ref qr), some (.int (m.begun - 1)), some (.ref d), some (.ref qf), x7, x8] ∧ RSt c ρ H p qr d qf rl vs (.dK (bestV (bestL rl))) ρ' H' ⟨nones rl.length, turnOf rl, m.begun, m.hits⟩ ⟨D.slow.fail0, freeAll F1 (freed rl)⟩ (freed rl), ?_, ?_⟩
  · refine ⟨_, rfl, _, _, rfl, .inl (SqL.of R7.hqr), _, rfl, by omega, by omega, ?_⟩
    refine for_it (walk_range0 (n := vs.length)) (fun i σ H' => ∃ (x7 x8 : Option V) (ρ' : Ro), σ = [some (.ref p), some (.ref t1), some (.ref t2), some (.ref qr), some (.int (m.begun - 1)), some (.ref d), some (.ref qf), x7, x8] ∧ RSt c ρ H p qr d qf rl vs (.dK (bestV (bestL rl))) ρ' H' ⟨nones rl.length, turnTo rl i, m.begun, m.hits⟩ ⟨D.slow.fail0, freeAll F1 (freedTo rl i)⟩ (freedTo rl i))
      ⟨_, _, ρ7, rfl, R7⟩ (fun i σ H' _ _ => trivial) (fun i x σ Hz H8 hi ⟨x7, x8, ρ8, e0, R8⟩ y => ?_) (fun σ H8 ⟨x7, x8, ρ8, e0, R8⟩ => ?_)
    · obtain ⟨rfl, rfl⟩ := y
      subst e0
      have hir : i < rl.length := by omega
      have hy : vs[i]? = some vs[i] := List.getElem?_eq_getElem hi
      generalize vs[i] = y at hy
      rcases rec_at R8.ha hy with ⟨hn, rfl⟩ | ⟨rc, u, hrc, rfl, hu⟩
      · have fe : freedTo rl (i + 1) = freedTo rl i := freedTo_skip (by unfold isFr; rw [hn])
        refine ⟨_, rfl, _, rfl, qr, vs, _, _, rfl, rfl, SqL.of R8.hqr, atI_nat hy, rfl, _, rfl, ite_ff nn_non ⟨_, _, ρ8, rfl, ?_⟩⟩
        rw [fe, turnTo_succ hir, hn]
        exact R8
      · refine ⟨_, rfl, _, rfl, qr, vs, _, _, rfl, rfl, SqL.of R8.hqr, atI_nat hy, rfl, _, rfl, ite_tt (nn_ref u) ?_⟩
        obtain ⟨A8, g8⟩ := R8.g
        refine ⟨_, rfl, p, _, rfl, g8.g "turn" _ rfl, _, rfl, _, rfl, qr, vs, _, _, rfl, rfl, SqL.of R8.hqr, atI_nat hy, u, _, _, _, rfl, rfl, SqT.of hu, rfl, _, _, rfl, rfl, _, _, rfl, _, rfl, p, _, rfl, DPut.k (k := .inr "turn") g8.obj (show (11 : Nat) < sizeLine by decide), ?_⟩
        obtain ⟨g9, m9⟩ := g8.obj' (if rc.t + 1 > turnTo rl i then rc.t + 1 else turnTo rl i) m.begun m.hits true
        have tE : (if rc.t + 1 > turnTo rl i then rc.t + 1 else turnTo rl i) = turnTo rl (i + 1) := by
          rw [turnTo_succ hir, hrc]
          rfl
        have R9 := R8.step (m9.mono (s1_sm (by decide) (by decide))) ⟨A8, g9⟩
        have hu9 := m9.tups _ _ hu
        have R9 := RSt.mem (m' := ⟨nones rl.length, turnTo rl (i + 1), m.begun, m.hits⟩) R9 (by rw [← tE])
        refine ⟨_, rfl, _, rfl, qr, vs, _, _, rfl, rfl, SqL.of R9.hqr, atI_nat hy, u, _, _, _, rfl, rfl, SqT.of hu9, rfl, _, rfl, ?_⟩
        rcases Bool.eq_false_or_eq_true rc.d with hdd | hdd
        · refine ite_tt hdd ?_
          obtain ⟨s0, hs0⟩ := best_has hrc hdd
          have dg : DGet _ d (.int (rc.b : Int)) (valV (bestV (bestL rl)) (Sum.inl (rc.b : Int))) := DGet.k (k := Sum.inl (rc.b : Int)) R9.hd
          rw [bestV_val, hs0] at dg
          refine ⟨_, rfl, _, rfl, _, rfl, qr, vs, _, _, rfl, rfl, SqL.of R9.hqr, atI_nat hy, u, _, _, _, rfl, rfl, SqT.of hu9, rfl, d, _, rfl, dg, _, rfl, rfl, _, rfl, ?_⟩
          by_cases hsi : s0 = i
          · have hbest : isBest rl i = true := by rw [isBest_eq hrc, hdd, hs0, hsi]; simp
            have fe : freedTo rl (i + 1) = freedTo rl i := freedTo_skip (by unfold isFr; rw [hrc]; show (rc.d && !isBest rl i) = false; rw [hbest, hdd]; rfl)
            refine ite_ff (by rw [hsi]; simp) ⟨_, _, ρ8, rfl, ?_⟩
            rw [fe]
            exact R9
          · have hbest : isBest rl i = false := by
              rw [isBest_eq hrc, hdd, hs0]
              simpa using hsi
            have hfr : isFr rl i = true := by unfold isFr; rw [hrc]; show (rc.d && !isBest rl i) = true; rw [hbest, hdd]; rfl
            have fe := freedTo_add hfr
            refine ite_tt (by simp; omega) ?_
            have z3 : (freedTo rl i).length ≤ i := freedTo_len
            refine ⟨_, rfl, .inl ⟨rfl, _, SqL.of R9.hqf⟩, _, rfl, _, _, _, rfl, rfl, R9.hqf, by unfold natV sizeLine; rw [List.length_map]; omega, ?_⟩
            have Ra := R9.app i
            obtain ⟨Aa, ga⟩ := Ra.g
            obtain ⟨z1, z2⟩ := freeAll_len F1 (freedTo rl i)
            rw [f1w, List.length_nil] at z2
            rw [f1s] at z1
            refine ⟨_, rfl, p, _, rfl, ga.g "fast" _ rfl, _, rfl, _, _, _, rfl, Option Rec, cR, 2020, ρ8, Aa.f, freeAll F1 (freedTo rl i), i, none, rfl, rfl, ga.fast, by omega, rfl, by omega, fun ρb Hb gd mb => ⟨_, _, ρb, rfl, ?_⟩⟩
            have Rb := Ra.step (mb.mono (sd_sm (by decide) (by decide))) ⟨Aa, ga.fast' gd mb⟩
            rw [fe, freeAll_snoc]
            exact Rb
        · have hfr : isFr rl i = false := by unfold isFr; rw [hrc]; show (rc.d && !isBest rl i) = false; rw [hdd]; rfl
          have fe := freedTo_skip hfr
          refine ite_ff hdd (iteF ⟨_, _, ρ8, rfl, ?_⟩)
          rw [fe]
          exact R9
    · subst e0
      rw [← hvl, turnTo_all, ← freed_eq] at R8
      exact ⟨_, _, ρ8, rfl, R8⟩
  rintro σ8 H8 ⟨x7, x8, ρ8, rfl, R8⟩
  -- the best, block by block
  have bi := bestI rl rl.length
  rw [← bestL_to] at bi
  have bln := bestI_len bi
  refine ⟨fun σ' H' => ∃ (x7 x8 : Option V) (ρ' : Ro), σ' = [some (.ref p), some (.ref t1), some (.ref t2), some (.ref qr), some (.int (m.begun - 1)), some (.ref d), some (.ref qf), x7, x8] ∧ RSt c ρ H p qr d qf rl vs (.dK (bestV (bestL rl))) ρ' H' ⟨knOf rl (m.begun - 1), turnOf rl, m.begun, m.hits⟩ ⟨D.slow.fail0, freeAll F1 (freed rl)⟩ (freed rl), ?_, ?_⟩
  · refine ⟨d, _, R8.hd, trivial, fun od => ?_⟩
    have RL := R8.setd (.frz od (.dK (bestV (bestL rl)))) (fun xs z => by cases z)
    refine ⟨_, rfl, d, od, rfl, .inl ⟨_, upd_same, ?_⟩⟩
    refine for_it walk_keys (fun i σ H' => ∃ (x7 x8 : Option V) (ρ' : Ro), σ = [some (.ref p), some (.ref t1), some (.ref t2), some (.ref qr), some (.int (m.begun - 1)), some (.ref d), some (.ref qf), x7, x8] ∧ RSt c ρ H p qr d qf rl vs (.frz od (.dK (bestV (bestL rl)))) ρ' H' ⟨knB rl (m.begun - 1) i, turnOf rl, m.begun, m.hits⟩ ⟨D.slow.fail0, freeAll F1 (freed rl)⟩ (freed rl))
      ⟨_, _, ρ8, rfl, RL⟩ (fun i σ H' _ ⟨_, _, _, _, R⟩ => R.hd) (fun i x σ Hz H9 hi ⟨x7, x8, ρ9, e0, R9⟩ y => ?_) (fun σ H9 ⟨x7, x8, ρ9, e0, R9⟩ => ?_)
    · obtain ⟨rfl, ky, vv, hkv, rfl⟩ := y
      subst e0
      obtain ⟨⟨b, s⟩, hbs, e1⟩ : ∃ q : Nat × Nat, (bestL rl)[i]? = some q ∧ (ky, vv) = ((Sum.inl (q.1 : Int) : Key), V.int (q.2 : Int)) := by
        unfold bestV at hkv
        rw [List.getElem?_map] at hkv
        cases q : (bestL rl)[i]? with
        | none => rw [q] at hkv; cases hkv
        | some z => rw [q] at hkv; exact ⟨z, rfl, (Option.some.inj hkv).symm⟩
      cases e1
      have hm := List.mem_of_getElem? hbs
      obtain ⟨r, h1, h2, h3, h4⟩ := bi.mem _ hm
      have h1 : recAt rl s = some r := h1
      have h4 : s < rl.length := h4
      obtain ⟨v, hvv, u, rfl, hu⟩ := R9.ha.get (recAt_some h1)
      obtain ⟨A9, g9⟩ := R9.g
      have dg : DGet H9 d (.int (b : Int)) (some (.int (s : Int))) := DGet.up (H' := H9) (k := .inl (b : Int)) (.inr ⟨od, R9.hd⟩) rfl (by rw [bestV_val, lookup_of bi.nd hm]; rfl)
      refine ⟨_, rfl, _, rfl, _, rfl, d, _, rfl, dg, qr, vs, _, _, rfl, rfl, SqL.of R9.hqr, atI_nat hvv, _, rfl, _, rfl, (show (4 : Nat) ≤ sizeLine by decide), fun q hq => ?_⟩
      have w10 : Mv S0 ρ9 H9 _ _ := Mv.refl.new hq (2030 + 1 + s) (.lst (entV u ⟨r, m.begun - 1, m.begun - 1, 1⟩))
      have Rn := R9.step (w10.mono s0_sp) ⟨A9, g9.mv0 w10⟩
      have g10 := g9.mv0 w10
      have dg2 : DGet (upd H9 q (.lst (entV u ⟨r, m.begun - 1, m.begun - 1, 1⟩))) d (.int (b : Int)) (some (.int (s : Int))) := DGet.up (H' := upd H9 q (.lst (entV u ⟨r, m.begun - 1, m.begun - 1, 1⟩))) (k := .inl (b : Int)) (.inr ⟨od, Rn.hd⟩) rfl (by rw [bestV_val, lookup_of bi.nd hm]; rfl)
      obtain ⟨hk810, ea, L10, hk10⟩ := g10.kn
      have hk810 : (knB rl (m.begun - 1) i).length ≤ 8 := hk810
      have hk10 : KnowAt 2030 _ _ A9.k ea L10 (knB rl (m.begun - 1) i) := hk10
      have hkn := hk10.rep.len
      refine ⟨_, rfl, p, _, rfl, g10.g "known" _ rfl, _, rfl, _, rfl, d, _, rfl, dg2, A9.k, _, rfl, DPut.k (k := Sum.inl (s : Int)) hk10.dict (by
        unfold sizeLine
        rw [kvs_len]
        omega), ?_⟩
      obtain ⟨ea', L', hk11⟩ := hk10.putA (s := s) (e := ⟨r, m.begun - 1, m.begun - 1, 1⟩) (by rw [knB_len]; exact h4) upd_same rs_same (w10.tups _ _ hu)
      have m11 := hk10.mvK (.dK (putK (kvs ea L10) (Sum.inl (s : Int)) (.ref q)))
      have g11 := g10.know' (kn := (knB rl (m.begun - 1) i).set s (some ⟨r, m.begun - 1, m.begun - 1, 1⟩)) ⟨by rw [set_len]; exact hk810, _, _, hk11⟩ m11
      refine ⟨_, _, rs ρ9 q (2030 + 1 + s), rfl, ?_⟩
      have Rf := Rn.step (m11.mono sk_sm) ⟨A9, g11⟩
      have ee : entB rl (m.begun - 1) s = some ⟨r, m.begun - 1, m.begun - 1, 1⟩ := by
        unfold entB
        rw [h1]
        rfl
      rw [knB_succ hbs, ee]
      exact Rf
    · subst e0
      have hbl : (bestV (bestL rl)).length = (bestL rl).length := by
        unfold bestV
        rw [List.length_map]
      rw [hbl, knB_all] at R9
      exact ⟨R9.hd, _, _, ρ9, rfl, R9.setd _ (fun xs z => by cases z)⟩
  rintro σ9 H9 ⟨y7, y8, ρ9, rfl, R9⟩
  -- the sync
  refine ⟨fun σ' H' => ∃ (x7 x8 : Option V) (ρ' : Ro), σ' = [some (.ref p), some (.ref t1), some (.ref t2), some (.ref qr), some (.int (m.begun - 1)), some (.ref d), some (.ref qf), x7, x8] ∧ RSt c ρ H p qr d qf rl vs (.dK (bestV (bestL rl))) ρ' H' ⟨knOf rl (m.begun - 1), turnOf rl, m.begun, m.hits⟩ ⟨D.slow.fail0, learnF rl F1⟩ (freed rl), ?_, ?_⟩
  · refine ⟨_, rfl, (show (0 : Nat) ≤ sizeLine by decide), fun b hb => ?_⟩
    have w10 : Mv S0 ρ9 H9 _ _ := Mv.refl.new hb 0 (.lst [])
    obtain ⟨A9, g9⟩ := R9.g
    have R10 := R9.step (w10.mono s0_sp) ⟨A9, g9.mv0 w10⟩
    have hy := R10.hqf
    rw [natV_eq] at hy
    refine ne_nil hy upd_same ⟨_, rfl, ?_⟩
    generalize upd H9 b (.lst []) = H10 at *
    generalize rs ρ9 b 0 = ρ10 at *
    cases hfz : freed rl with
    | nil =>
      refine iteF ⟨_, _, ρ10, rfl, ?_⟩
      rw [hfz] at R10
      have e : learnF rl F1 = freeAll F1 [] := if_pos hfz
      rw [e]
      exact R10
    | cons s r =>
      obtain ⟨A10, g10⟩ := R10.g
      refine iteT ⟨_, rfl, p, _, rfl, g10.g "fast" _ rfl, _, rfl, Option Rec, cR, 2020, ρ10, A10.f, freeAll F1 (freed rl), rfl, g10.fast, fun ρ11 H11 gd m11 => ⟨_, _, ρ11, rfl, ?_⟩⟩
      have R11 := R10.step (m11.mono (sd_sm (by decide) (by decide))) ⟨A10, g10.fast' gd m11⟩
      have e : learnF rl F1 = (freeAll F1 (freed rl)).sync := if_neg (by rw [hfz]; simp)
      rw [e, ← hfz]
      exact R11
  rintro σ10 H10 ⟨z7, z8, ρ10, rfl, R10⟩
  refine ⟨_, rfl, d, _, (bestL rl).map (fun x => (x.1 : Int)), rfl, .inl R10.hd, by unfold bestV; rw [List.map_map, List.map_map]; rfl, by rw [List.length_map]; omega, fun ys q hp hs hq => ?_⟩
  have eD : ⟨D.slow.fail0, learnF rl F1⟩ = restartD D := by
    unfold restartD restartF learnF
    rw [hrl, hF1]
  have eM : (⟨knOf rl (m.begun - 1), turnOf rl, m.begun, m.hits⟩ : Mem) = restartM m D := by
    unfold restartM
    rw [hrl]
  have e1 := sorted_blocks (nb := nb) (kn := knOf rl (m.begun - 1)) (l := (bestL rl).map (·.1)) bi.nd (best_blocks hrb) (by rw [List.map_map]; exact hp) hs
  have w11 : Mv S0 ρ10 H10 _ _ := Mv.refl.new hq 0 (.lst (ys.map V.int))
  have g11 := R10.g.mv0 w11
  have m11 := R10.m.trans (w11.mono s0_sp)
  rw [eD, eM] at g11
  refine k _ _ q g11 m11 rs_same ?_
  rw [upd_same, e1, natV_eq, ← eM]
  rfl
end
end Kb
set_option Elab.async false
set_option linter.all false
set_option maxRecDepth 100000
set_option maxHeartbeats 4000000
namespace Kb
open PySem PySem.Spec PyProof.Rows L2
/-- rows [slot, record], each a list of its own -/
def RowsV (ρ : Ro) (H : Hp) (l : List (Nat × Ent)) (ys : List V) : Prop := Paired (fun (x : Nat × Ent) (v : V) => ∃ q t, v = .ref q ∧ ρ q = 7000 ∧ H q = some (.lst [.int (x.1 : Int), .ref t]) ∧ H t = some (.tup (recV x.2.r))) l ys
theorem RowsV.mv {S : Nat → Prop} {ρ ρ' : Ro} {H H' : Hp} (m : Mv S ρ H ρ' H') (n : ¬ S 7000) : ∀ {l : List (Nat × Ent)} {ys : List V}, RowsV ρ H l ys → RowsV ρ' H' l ys
  | _, _, .nil => .nil
  | _, _, .cons ⟨q, t, e1, e2, e3, e4⟩ r => .cons ⟨q, t, e1, m.ro e3 e2, m.keeps e3 e2 n, m.tups _ _ e4⟩ (RowsV.mv m n r)
theorem RowsV.snoc {ρ : Ro} {H : Hp} {x : Nat × Ent} {v : V} (h : ∃ q t, v = .ref q ∧ ρ q = 7000 ∧ H q = some (.lst [.int (x.1 : Int), .ref t]) ∧ H t = some (.tup (recV x.2.r))) : ∀ {l : List (Nat × Ent)} {ys : List V}, RowsV ρ H l ys → RowsV ρ H (l ++ [x]) (ys ++ [v])
  | _, _, .nil => .cons h .nil
  | _, _, .cons r t => .cons r (RowsV.snoc h t)
theorem RowsV.len {ρ : Ro} {H : Hp} : ∀ {l : List (Nat × Ent)} {ys : List V}, RowsV ρ H l ys → ys.length = l.length
  | _, _, .nil => rfl
  | _, _, .cons _ t => congrArg Nat.succ (RowsV.len t)
theorem RowsV.get {ρ : Ro} {H : Hp} : ∀ {l : List (Nat × Ent)} {ys : List V} {i : Nat} {v : V}, RowsV ρ H l ys → ys[i]? = some v → ∃ x q t, l[i]? = some x ∧ v = .ref q ∧ ρ q = 7000 ∧ H q = some (.lst [.int (x.1 : Int), .ref t]) ∧ H t = some (.tup (recV x.2.r))
  | _, _, _, _, .nil, e => by simp at e
  | _, _, 0, v, .cons ⟨q, t, h⟩ _, e => by simp at e; subst e; exact ⟨_, q, t, rfl, h⟩
  | _, _, i + 1, v, .cons _ t, e => by
    obtain ⟨x, q, t, h1, h2⟩ := RowsV.get (i := i) (v := v) t (by simpa using e)
    exact ⟨x, q, t, by simpa using h1, h2⟩
section
variable {P : Program} {w : World} {K : PySem.W.Frag} {mg : Str → Option Value} {base : Heap}
def sp_Lrequest : Sp := Sp2 fun a b H Q => ∃ (d : Addr) (nb : Nat) (ρ : Ro), a = .ref d ∧ b = .int (nb : Int) ∧ DAt ρ H d ∧ 1 ≤ nb ∧ nb ≤ 16 ∧
  ∀ (ρ' : Ro) (H' : Hp) (t : Addr) (rq : Rq), Mv SL ρ H ρ' H' → DAt ρ' H' d → H' t = some (.tup (reqV rq)) → rq.Ok nb → Q (.ref t) H'
theorem sc_L_request : FnScope ["_law_d", "_law_blocks", "_law_block", "_law_value"] ["_law_d", "_law_blocks"] (defScope s_L_request) := ⟨rfl, rfl, rfl, by decide +kernel, rfl, by decide +kernel, by decide +kernel⟩
theorem c_L_request (T : Txt K mg) : C8.Cal P w K mg base 2 "_law_request" (sp_Lrequest) [] := by
  refine cal_of T.F_L_request T.g_Lrequest sc_L_request len2 (fun _ _ _ _ _ _ us hl => match us, hl with | [_, _], _ => rfl) (fun cdv A outer s H vs Q E hr h => ?_)
  obtain ⟨a, b, rfl, d, nb, ρ, rfl, rfl, hd, n1, n2, k⟩ := h
  refine ⟨_, pss_cons (ps_par (i := 2) (j := 3) (by rfl) sc_L_request.nd rfl rfl (by decide) rfl rfl (pa_cons (C8.pe_c (c_L_below T) hr (by decide) rfl (pa_cons (pv 0) (pa_cons (pv 1) pa_nil))) (pa_cons (C8.pe_c (c_L_below T) hr (by decide) rfl (pa_cons (pv 0) (pa_cons (pe_ix (r := rIxL K) ix_list (pe_lst (pa_cons (pe_int) (pa_cons (pe_int) pa_nil))) (C8.pe_c (c_L_below T) hr (by decide) rfl (pa_cons (pv 0) (pa_cons (pe_int) pa_nil))) (fun _ _ => rfl)) pa_nil))) pa_nil)) (by rfl))
      (pss_one (ps_ret (pe_ifExp (pt_cmpR op_eq (C8.pe_c (c_L_below T) hr (by decide) rfl (pa_cons (pv 0) (pa_cons (pe_int) pa_nil))) (pe_int) (nomark _)) (pe_tup (pa_cons (pe_str) (pa_cons (pv 2) pa_nil))) (pe_tup (pa_cons (pe_str) (pa_cons (pv 2) (pa_cons (pv 3) pa_nil))))))), ?_⟩
  refine ⟨_, rfl, _, rfl, _, _, rfl, d, nb, ρ, rfl, rfl, hd, n1, by omega, fun H1 r1 hd1 m1 hr1 => ?_⟩
  refine ⟨_, rfl, (show (2 : Nat) ≤ sizeLine by decide), fun ql hql => ?_⟩
  have w2 : Mv S0 ρ H1 _ _ := Mv.refl.new hql 0 (.lst [.int 9, .int 1000])
  have hd2 := hd1.mv w2 (fun z => z)
  have g2 : upd H1 ql (.lst [.int 9, .int 1000]) ql = some (.lst [.int 9, .int 1000]) := upd_same
  have r2 : rs ρ ql 0 ql = 0 := rs_same
  have m2 : Mv SL ρ H _ _ := m1.trans (w2.mono s0_sp)
  generalize upd H1 ql (.lst [.int 9, .int 1000]) = H2 at *
  generalize rs ρ ql 0 = ρ2 at *
  refine ⟨_, rfl, _, _, rfl, d, 2, ρ2, rfl, rfl, hd2, by decide, by decide, fun H3 r3 hd3 m3 hr3 => ?_⟩
  have g3 := m3.keeps g2 r2 (s1N (by decide))
  obtain ⟨lim, hlim, l1, l2⟩ : ∃ lim : Nat, ([.int 9, .int 1000] : List V)[r3]? = some (.int (lim : Int)) ∧ 1 ≤ lim ∧ lim ≤ 1000 := by
    obtain rfl | rfl : r3 = 0 ∨ r3 = 1 := by omega
    · exact ⟨9, rfl, by decide, by decide⟩
    · exact ⟨1000, rfl, by decide, by decide⟩
  refine ⟨ql, _, _, _, rfl, rfl, SqL.of g3, atI_nat hlim, _, _, rfl, d, lim, ρ2, rfl, rfl, hd3, l1, by omega, fun H4 r4 hd4 m4 hr4 => ⟨_, _, rfl, ?_⟩⟩
  refine ⟨_, rfl, _, _, rfl, d, 2, ρ2, rfl, rfl, hd4, by decide, by decide, fun H5 r5 hd5 m5 hr5 => ?_⟩
  have m05 := ((m2.trans m3).trans m4).trans m5
  refine ⟨rfl, _, rfl, ?_⟩
  by_cases h0 : r5 = 0
  · refine ite_tt (by rw [h0]; decide) ⟨_, rfl, (show (2 : Nat) ≤ sizeLine by decide), fun t ht => ?_⟩
    have w6 : Mv S0 ρ2 H5 _ _ := Mv.refl.new ht 0 (.tup (reqV (.rd r1)))
    exact k _ _ t (.rd r1) (m05.trans (w6.mono s0_sp)) (hd5.mv w6 (fun z => z)) upd_same hr1
  · refine ite_ff (by simp; omega) ⟨_, rfl, _, rfl, (show (3 : Nat) ≤ sizeLine by decide), fun t ht => ?_⟩
    have w6 : Mv S0 ρ2 H5 _ _ := Mv.refl.new ht 0 (.tup (reqV (.wr r1 r4)))
    exact k _ _ t (.wr r1 r4) (m05.trans (w6.mono s0_sp)) (hd5.mv w6 (fun z => z)) upd_same ⟨hr1, by omega⟩
def sp_Lcounts : Sp := Sp1 fun a H Q => ∃ (c : Cfg) (ρ : Ro) (p : Addr) (m : Mem) (D : Ds) (on : Bool), a = .ref p ∧ ModAt c ρ H p m D on ∧
  ∀ (ρ' : Ro) (H' : Hp) (t : Addr), Mv S0 ρ H ρ' H' → H' t = some (.tup ((cnt D).map V.int)) → Q (.ref t) H'
theorem sc_L_counts : FnScope ["_law_m", "_law_now", "_law_k"] ["_law_m"] (defScope s_L_counts) := ⟨rfl, rfl, rfl, by decide +kernel, rfl, by decide +kernel, by decide +kernel⟩
theorem c_L_counts (T : Txt K mg) : C8.Cal P w K mg base 1 "_law_counts" (sp_Lcounts) [] := by
  refine cal_of T.F_L_counts T.g_Lcounts sc_L_counts len1 (fun _ _ _ _ _ _ us hl => match us, hl with | [_], _ => rfl) (fun cdv A outer s H vs Q E hr h => ?_)
  obtain ⟨a, rfl, c, ρ, p, m, D, on, rfl, ⟨A, h⟩, k⟩ := h
  obtain ⟨Ls, xs⟩ := h.slow.mw
  obtain ⟨Lf, xf⟩ := h.fast.mw
  refine ⟨_, pss_cons (ps_set (i := 1) sc_L_counts.nd rfl (.inr rfl) (pe_op op_cat (pe_ix (r := rIxL K) ix_list (pe_dget (hu_of hr) (pv 0) (pe_str) (fun _ _ => rfl)) (pe_int) (fun _ _ => rfl)) (pe_ifExp (pt_cmpR op_isN (pe_dget (hu_of hr) (pv 0) (pe_str) (fun _ _ => rfl)) (pe_non) (nomark _)) (pe_lst (pa_cons (pe_int) (pa_cons (pe_int) (pa_cons (pe_int) pa_nil)))) (pe_ix (r := rIxL K) ix_list (pe_dget (hu_of hr) (pv 0) (pe_str) (fun _ _ => rfl)) (pe_int) (fun _ _ => rfl)))))
      (pss_one (ps_ret (pe_callTy call_tuple_of (by rfl) T.f_tuple (by decide +kernel) (pa_cons (pe_lc (own := [("_law_k", 2)]) (by rfl) sc_L_counts.nd (g := gName 2) (pi_range1 rfl T.f_range (pa_cons (pe_int) pa_nil)) (blkOk_by (own := [("_law_k", 2)]) (N := ["_law_m", "_law_now", "_law_k"]) (sc := defScope s_L_counts) (by decide +kernel)) (fun _ _ _ _ _ => pg_name (i := 2) sc_L_counts.nd rfl (.inl rfl) (.inr rfl)) (fun _ _ _ _ _ => pts_nil) (fun _ _ _ _ _ => pe_op op_add (pe_ix (r := rIxL K) ix_list (pe_dget (hu_of hr) (pv 0) (pe_str) (fun _ _ => rfl)) (pv 2) (fun _ _ => rfl)) (pe_ix (r := rIxL K) ix_list (pv 1) (pv 2) (fun _ _ => rfl)))) pa_nil)))), ?_⟩
  refine ⟨_, rfl, p, _, rfl, h.g "slow" _ rfl, A.s, _, _, _, rfl, rfl, SqL.of xs.hd, rfl, ?_⟩
  refine ⟨_, rfl, p, _, rfl, h.g "fast" _ rfl, rfl, _, rfl, ite_ff (by simp) ?_⟩
  refine ⟨_, rfl, p, _, rfl, h.g "fast" _ rfl, A.f, _, _, _, rfl, rfl, SqL.of xf.hd, rfl, ?_⟩
  refine ⟨_, _, _, _, rfl, rfl, xs.g.ta, xf.g.ta, (show (6 : Nat) ≤ sizeLine by decide), fun q hq => ?_⟩
  have m0 : Mv S0 ρ H _ _ := Mv.refl.new hq 0 (.lst ((tals D).map V.int))
  have h0 := h.mv0 m0
  have hq0 : upd H q (.lst ((tals D).map V.int)) q = some (.lst ((tals D).map V.int)) := upd_same
  refine ⟨_, rfl, by decide, by decide, fun D' hD => ?_⟩
  refine lc_gen (ρ := rs ρ q 0) (walk_range0 (n := 6)) (by decide) cI (fun i => (cnt D)[i]?) (fun ρ' H' m => trivial) (fun i x ρ1 Hz H1 hi m1 y Ny Nn hNy hNn => ?_) hD fun ρ1 H1 ys m1 r0 hy ha => ?_
  · obtain ⟨rfl, rfl⟩ := y
    obtain ⟨z, z1, z2, z3⟩ := cnt_at D hi
    have h1 := h0.mv0 m1
    have hz : ((tals D).map V.int)[i]? = some (.int z) := by rw [List.getElem?_map, z1]; rfl
    exact ⟨rfl, _, rfl, p, _, rfl, h1.g "past" _ rfl, _, rfl, A.p, _, _, _, rfl, rfl, SqL.of h1.past, atI_nat z3, _, rfl, _, rfl, q, _, _, _, rfl, rfl, SqL.of (m1.at0 hq0), atI_nat hz, _, _, rfl, rfl, hNy _ _ _ (0 + z) z2 rfl Mv.refl⟩
  · have e1 : (List.range 6).filterMap (fun i => (cnt D)[i]?) = cnt D := fm_get (cnt D)
    rw [e1] at ha
    rw [ints_of ha] at hy
    exact ⟨D', _, rfl, .inl ⟨SqL.of hy, fun l hl => k _ _ l ((m0.trans m1).new hl 0 _) upd_same⟩⟩
def sp_Lvalues : Sp := Sp1 fun a H Q => ∃ (c : Cfg) (ρ : Ro) (p : Addr) (m : Mem) (D : Ds) (on : Bool) (nb : Nat), a = .ref p ∧ ModAt c ρ H p m D on ∧ Uq m.kn ∧ KB nb m.kn ∧ D.slow.sh.length = nb ∧
  ∀ (ρ' : Ro) (H' : Hp) (q : Addr), Mv S0 ρ H ρ' H' → ρ' q = 0 → H' q = some (.lst ((vals m.kn D.slow.sh).map V.int)) → Q (.ref q) H'
theorem sc_L_values : FnScope ["_law_m", "_law_found", "_law_slot_here"] ["_law_m"] (defScope s_L_values) := ⟨rfl, rfl, rfl, by decide +kernel, rfl, by decide +kernel, by decide +kernel⟩
theorem c_L_values (T : Txt K mg) : C8.Cal P w K mg base 1 "_law_values" (sp_Lvalues) [] := by
  refine cal_of T.F_L_values T.g_Lvalues sc_L_values len1 (fun _ _ _ _ _ _ us hl => match us, hl with | [_], _ => rfl) (fun cdv A outer s H vs Q E hr h => ?_)
  obtain ⟨a, rfl, c, ρ, p, m, D, on, nb, rfl, ⟨A, h⟩, u, hb, hl, k⟩ := h
  obtain ⟨Ls, xs⟩ := h.slow.mw
  obtain ⟨vs, hv1, q1⟩ := xs.g.sh
  cases ints_of q1
  obtain ⟨hk8, ea, L, hk⟩ := h.kn
  have npk : p ≠ A.k := ro_ne h.role hk.role (by decide)
  have ho := h.obj
  have hlen := hk.rep.len
  refine ⟨_, pss_cons (ps_set (i := 1) sc_L_values.nd rfl (.inl rfl) (pe_callTy call_list_of (by rfl) T.f_list (by decide +kernel) (pa_cons (pe_ix (r := rIxL K) ix_list (pe_dget (hu_of hr) (pv 0) (pe_str) (fun _ _ => rfl)) (pe_int) (fun _ _ => rfl)) pa_nil)))
      (pss_cons (ps_lock (ps_for PassesOwn.never rfl (pi_keys (pe_dget (hu_of hr) (pv 0) (pe_str) (fun _ _ => rfl))) (pg_name (i := 2) sc_L_values.nd rfl (.inl rfl)) (pss_one (ps_asg (pe_ix (r := rIxT K) ix_tup (pe_ix (r := rIxL K) ix_list (pe_dget (hu_of hr) (pe_dget (hu_of hr) (pv 0) (pe_str) (fun _ _ => rfl)) (pv 2) (fun _ _ => rfl)) (pe_int) (fun _ _ => rfl)) (pe_int) (fun _ _ => rfl)) (pg_sub (pv 1) (pe_ix (r := rIxT K) ix_tup (pe_ix (r := rIxL K) ix_list (pe_dget (hu_of hr) (pe_dget (hu_of hr) (pv 0) (pe_str) (fun _ _ => rfl)) (pv 2) (fun _ _ => rfl)) (pe_int) (fun _ _ => rfl)) (pe_int) (fun _ _ => rfl)) set_list)))))
      (pss_one (ps_ret (pv 1)))), ?_⟩
  refine ⟨_, rfl, p, _, rfl, h.g "slow" _ rfl, A.s, _, _, _, rfl, rfl, SqL.of xs.hd, rfl, Ls.a1, _, rfl, .inl (SqL.of hv1), fun R hR => ?_⟩
  have m0 : Mv S0 ρ H _ _ := Mv.refl.new hR 0 (.lst (D.slow.sh.map V.int))
  have hk0 := hk.mv0 m0
  have ho0 := m0.at0 ho
  have nRk : R ≠ A.k := fun z => by rw [z, hk.dict] at hR; cases hR
  refine ⟨A.k, _, hk0.dict, trivial, fun od => ?_⟩
  have hol := (upd_ne (o := .frz od (.dK (kvs ea L))) npk).trans ho0
  have gl : ∀ H', H' p = some (.dK (modF A m on)) → DGet H' p (.str "known") (some (.ref A.k)) := fun H' z => DGet.k (k := .inr "known") z
  refine ⟨_, rfl, p, _, rfl, gl _ hol, A.k, od, rfl, .inl ⟨_, upd_same, ?_⟩⟩
  have mL := m0.lock2 hk.dict (.frz od (.dK (kvs ea L)))
  have hRL : upd H A.k (.frz od (.dK (kvs ea L))) R = none := (upd_ne nRk).trans hR
  have hoL : upd H A.k (.frz od (.dK (kvs ea L))) p = some (.dK (modF A m on)) := (upd_ne npk).trans ho
  refine for_it walk_keys (fun i σ H' => ∃ x ρ', σ = [some (.ref p), some (.ref R), x] ∧ Mv S0 ρ (upd H A.k (.frz od (.dK (kvs ea L)))) ρ' H' ∧ H' R = some (.lst (((L.take i).foldl setE D.slow.sh).map V.int)) ∧ ρ' R = 0)
    ⟨_, _, rfl, mL, (upd_ne nRk).trans upd_same, rs_same⟩ (fun i σ H' _ ⟨_, _, _, mm, _, _⟩ => mm.at0 upd_same) (fun i x σ Hz H1 hi ⟨x0, ρ1, e0, m1, hR1, r1⟩ y => ?_) (fun σ H1 ⟨x0, ρ1, e0, m1, hR1, r1⟩ => ?_)
  · obtain ⟨rfl, ky, vv, hkv, rfl⟩ := y
    subst e0
    obtain ⟨s, e, hLi, hkv2⟩ := kvs_at hkv
    cases hkv2
    obtain ⟨hat, t, h1', h2'⟩ := lk_ent hk hLi m1
    have hol1 := m1.at0 hoL
    have hfz : H1 A.k = some (.frz od (.dK (kvs ea L))) := m1.at0 upd_same
    have hv := hk.val (s := s)
    rw [hat] at hv
    have dg : DGet H1 A.k (.int (s : Int)) (some (.ref (ea s))) := DGet.up (H' := H1) (k := .inl (s : Int)) (.inr ⟨od, hfz⟩) rfl hv.symm
    have hbl : e.r.b < ((L.take i).foldl setE D.slow.sh).length := by rw [foldl_len, hl]; exact hb s e hat
    refine ⟨_, rfl, p, _, rfl, gl _ hol1, _, rfl, A.k, _, rfl, dg, ea s, _, _, _, rfl, rfl, SqL.of h1', rfl, t, _, _, _, rfl, rfl, SqT.of h2', rfl, _, rfl, _, rfl, p, _, rfl, gl _ hol1, _, rfl, A.k, _, rfl, dg, ea s, _, _, _, rfl, rfl, SqL.of h1', rfl, t, _, _, _, rfl, rfl, SqT.of h2', rfl, R, _, _, e.r.b, rfl, rfl, hR1, ixn (by rw [List.length_map]; exact hbl), ?_⟩
    have e1 : (((L.take i).foldl setE D.slow.sh).map V.int).set e.r.b (.int e.r.v) = ((L.take (i + 1)).foldl setE D.slow.sh).map V.int := by
      rw [List.take_succ, hLi, List.foldl_append, ← List.map_set]
      rfl
    rw [e1]
    exact ⟨_, ρ1, rfl, m1.wr hR1 (fun xs z => by cases z) (.inl hRL) _, upd_same, r1⟩
  · subst e0
    rw [kvs_len, List.take_length, vals_perm hk.rep u] at hR1
    obtain ⟨g1, g2⟩ := Mv.unlk hk.dict m1
    exact ⟨g1, _, rfl, k ρ1 _ R g2 r1 ((upd_ne nRk).trans hR1)⟩
end
end Kb
set_option Elab.async false
set_option linter.all false
set_option maxRecDepth 100000
set_option maxHeartbeats 4000000
namespace Kb
open PySem PySem.Spec PyProof.Rows L2
theorem canon_bind {kn : Kn} : (canon kn).filterMap gDB = (canon kn).filterMap gDB := rfl
theorem canon_rep (kn : Kn) : LRep (canon kn) kn := by
  refine ⟨?_, fun s e => canon_mem⟩
  have h := canon_sd kn
  unfold List.Nodup
  exact h.imp fun {a b} q => by omega
theorem KnowV.at_ {H : Hp} : ∀ {l : List (Nat × Ent)} {kv : List (Key × V)} {i : Nat} {ky : Key} {v : V}, KnowV H l kv → kv[i]? = some (ky, v) → ∃ x, l[i]? = some x ∧ ky = Sum.inl (x.1 : Int) ∧ RecAt H x.2.r v
  | _, _, _, _, _, .nil, e => by simp at e
  | _, _, 0, _, _, .cons r _, e => by simp at e; subst e; exact ⟨_, rfl, r.1, r.2⟩
  | _, _, i + 1, _, _, .cons _ t, e => by
    obtain ⟨x, h1, h2⟩ := KnowV.at_ (i := i) t (by simpa using e)
    exact ⟨x, by simpa using h1, h2⟩
theorem valV_mem {kv : List (Key × V)} {k : Key} {v : V} : (kv.map (·.1)).Nodup → (k, v) ∈ kv → valV kv k = some v := by
  induction kv with
  | nil => intro _ h; exact absurd h List.not_mem_nil
  | cons p l ih =>
    intro nd h
    rw [List.map_cons, List.nodup_cons] at nd
    obtain ⟨k0, v0⟩ := p
    by_cases q : k0 = k
    · subst q
      rcases List.mem_cons.mp h with e | m
      · cases e
        unfold valV
        simp
      · exact absurd (List.mem_map.mpr ⟨_, m, rfl⟩) nd.1
    · rcases List.mem_cons.mp h with e | m
      · cases e
        exact absurd rfl q
      · rw [valV_neg q]
        exact ih nd.2 m
theorem KnowV.nd {H : Hp} {kn : Kn} {kv : List (Key × V)} (h : KnowV H (canon kn) kv) : (kv.map (·.1)).Nodup := by
  rw [h.keys]
  have z := canon_sd kn
  rw [List.pairwise_map] at z
  unfold List.Nodup
  rw [List.pairwise_map]
  exact z.imp fun {a b} q e => by
    have e : (Sum.inl (a.1 : Int) : Key) = Sum.inl (b.1 : Int) := e
    have := key_inj.mp e
    omega
section
variable {P : Program} {w : World} {K : PySem.W.Frag} {mg : Str → Option Value} {base : Heap}
def sp_Lshown : Sp := Sp1 fun a H Q => ∃ (c : Cfg) (ρ : Ro) (p : Addr) (m : Mem) (D : Ds) (on : Bool) (nb : Nat), a = .ref p ∧ ModAt c ρ H p m D on ∧ Uq m.kn ∧ KB nb m.kn ∧ D.slow.sh.length = nb ∧
  ∀ (ρ' : Ro) (H' : Hp) (q q1 q2 q3 : Addr) (ys : List V), Mv S0 ρ H ρ' H' → H' q = some (.lst [.ref q1, .ref q2, .ref q3]) → H' q1 = some (.lst ((vals m.kn D.slow.sh).map V.int)) → H' q2 = some (.lst ys) → RowsV ρ' H' (canon m.kn) ys → H' q3 = some (.lst (natV (dirtyBlocks nb m.kn))) → Q (.ref q) H'
theorem sc_L_shown : FnScope ["_law_m", "_law_known", "_law_dirty", "_law_slot_here", "_law_row"] ["_law_m"] (defScope s_L_shown) := ⟨rfl, rfl, rfl, by decide +kernel, rfl, by decide +kernel, by decide +kernel⟩
theorem c_L_shown (T : Txt K mg) : C8.Cal P w K mg base 2 "_law_shown" (sp_Lshown) [] := by
  refine cal_of T.F_L_shown T.g_Lshown sc_L_shown len1 (fun _ _ _ _ _ _ us hl => match us, hl with | [_], _ => rfl) (fun cdv A outer s H vs Q E hr h => ?_)
  obtain ⟨a, rfl, c, ρ, p, m, D, on, nb, rfl, ⟨A, h⟩, u, hb, hl, k⟩ := h
  obtain ⟨hk8, ea, L, hk⟩ := h.kn
  have hlen := hk.rep.len
  have hcl := canon_len m.kn
  refine ⟨_, pss_cons (ps_setLc (i := 1) (own := [("_law_slot_here", 3)]) (by rfl) sc_L_shown.nd rfl rfl (sw_true rfl rfl rfl (by decide +kernel)) (g := gName 3) (pi_list (pe_callB (call_sortedDI rfl) (by rfl) T.f_sorted (by decide +kernel) (pa_cons (pe_dget (hu_of hr) (pv 0) (pe_str) (fun _ _ => rfl)) pa_nil))) (blkOk_by (own := [("_law_slot_here", 3)]) (N := ["_law_m", "_law_known", "_law_dirty", "_law_slot_here", "_law_row"]) (sc := defScope s_L_shown) (by decide +kernel)) (fun _ _ _ _ _ => pg_name (i := 3) sc_L_shown.nd rfl (.inl rfl) (.inr rfl)) (fun _ _ _ _ _ => pts_nil) (fun _ _ _ _ _ => pe_lst (pa_cons (pv 3) (pa_cons (pe_ix (r := rIxL K) ix_list (pe_dget (hu_of hr) (pe_dget (hu_of hr) (pv 0) (pe_str) (fun _ _ => rfl)) (pv 3) (fun _ _ => rfl)) (pe_int) (fun _ _ => rfl)) pa_nil))))
      (pss_cons (ps_set (i := 2) sc_L_shown.nd rfl (.inl rfl) (pe_callB cr_sortedI (by rfl) T.f_sorted (by decide +kernel) (pa_cons (pe_lc (own := [("_law_row", 4)]) (by rfl) sc_L_shown.nd (g := gName 4) (pi_list (pv 1)) (blkOk_by (own := [("_law_row", 4)]) (N := ["_law_m", "_law_known", "_law_dirty", "_law_slot_here", "_law_row"]) (sc := defScope s_L_shown) (by decide +kernel)) (fun _ _ _ _ _ => pg_name (i := 4) sc_L_shown.nd rfl (.inl rfl) (.inr rfl)) (fun _ _ _ _ _ => pts_one (pt_val (pe_ix (r := rIxT K) ix_tup (pe_ix (r := rIxL K) ix_list (pv 4) (pe_int) (fun _ _ => rfl)) (pe_int) (fun _ _ => rfl)))) (fun _ _ _ _ _ => pe_ix (r := rIxT K) ix_tup (pe_ix (r := rIxL K) ix_list (pv 4) (pe_int) (fun _ _ => rfl)) (pe_int) (fun _ _ => rfl))) pa_nil)))
      (pss_one (ps_ret (pe_lst (pa_cons (C8.pe_c (c_L_values T) hr (by decide) rfl (pa_cons (pv 0) pa_nil)) (pa_cons (pv 1) (pa_cons (pv 2) pa_nil))))))), ?_⟩
  refine ⟨_, rfl, p, _, rfl, h.g "known" _ rfl, A.k, _, L.map (fun x => (x.1 : Int)), rfl, .inl hk.dict, by unfold kvs; rw [List.map_map, List.map_map]; rfl, by rw [List.length_map]; omega, fun ys q1 hp hs hq1 => ?_⟩
  have e1 := canon_keys hk.rep hp hs
  subst e1
  have m0 : Mv S0 ρ H _ _ := Mv.refl.new hq1 0 (.lst (((canon m.kn).map fun x => (x.1 : Int)).map V.int))
  have hq1' : upd H q1 (.lst (((canon m.kn).map fun x => (x.1 : Int)).map V.int)) q1 = some (.lst (((canon m.kn).map fun x => (x.1 : Int)).map V.int)) := upd_same
  have hn : (((canon m.kn).map fun x => (x.1 : Int)).map V.int).length = (canon m.kn).length := by rw [List.length_map, List.length_map]
  generalize upd H q1 (.lst (((canon m.kn).map fun x => (x.1 : Int)).map V.int)) = H0 at m0 hq1' ⊢
  generalize rs ρ q1 0 = ρ0 at m0
  refine ⟨q1, rfl, ⟨_, SqL.of hq1'⟩, fun D' hD => ?_⟩
  have wk := walk_list (K := K) (a := q1) (xs := ((canon m.kn).map fun x => (x.1 : Int)).map V.int)
  rw [hn] at wk
  refine lc_it wk (fun i H' => ∃ ρ' ys, Mv S0 ρ0 H0 ρ' H' ∧ H' D' = some (.lst ys) ∧ ρ' D' = 0 ∧ RowsV ρ' H' ((canon m.kn).take i) ys)
    ⟨_, [], Mv.refl.new hD 0 _, upd_same, rs_same, .nil⟩ (fun i H' _ ⟨_, _, mm, _⟩ => SqL.of (mm.at0 hq1')) (fun i x Hz H1 hi ⟨ρ1, ys, m1, hy, r0, ha⟩ y => ?_) (fun H1 ⟨ρ1, ys, m1, hy, r0, ha⟩ => ?_)
  · obtain ⟨rfl, hx⟩ := y
    obtain ⟨⟨s, en⟩, e⟩ : ∃ s, (canon m.kn)[i]? = some s := ⟨_, List.getElem?_eq_getElem hi⟩
    rw [List.getElem?_map, List.getElem?_map, e] at hx
    cases hx
    have hat := canon_mem.mp (List.mem_of_getElem? e)
    have h1 := (h.mv0 m0).mv0 m1
    obtain ⟨_, ea1, L1, hk1⟩ := h1.kn
    obtain ⟨_, t, he1, he2⟩ := hk1.ent s en hat
    have dg := hk1.dget (s := s)
    rw [hat] at dg
    have hyl := ha.len
    rw [List.length_take] at hyl
    refine ⟨rfl, _, rfl, _, rfl, p, _, rfl, h1.g "known" _ rfl, _, rfl, A.k, _, rfl, dg, ea1 s, _, _, _, rfl, rfl, SqL.of he1, rfl, (show (2 : Nat) ≤ sizeLine by decide), fun q hq => ?_⟩
    have w2 : Mv S0 ρ1 H1 _ _ := Mv.refl.new hq 7000 (.lst [.int (s : Int), .ref t])
    have hy2 := w2.at0 hy
    have r2 := w2.ro hy r0
    have w3 : Mv (S1 0) _ _ (rs ρ1 q 7000) (upd (upd H1 q (.lst [.int (s : Int), .ref t])) D' (.lst (ys ++ [.ref q]))) := Mv.refl.wr hy2 (fun xs z => by cases z) (.inr r2) _
    have hq2 : upd H1 q (.lst [.int (s : Int), .ref t]) q = some (.lst [.int (s : Int), .ref t]) := upd_same
    have rq2 : rs ρ1 q 7000 q = 7000 := rs_same
    refine ⟨ys, hy2, Nat.lt_of_le_of_lt (show ys.length ≤ 8 by omega) (by decide), _, ys ++ [.ref q], (m1.trans w2).wr hy2 (fun xs z => by cases z) (.inl hD) _, upd_same, r2, ?_⟩
    rw [List.take_succ, e]
    exact RowsV.snoc ⟨q, t, rfl, rq2, w3.keeps hq2 rq2 (s1N (by decide)), w3.tups _ _ (w2.tups _ _ he2)⟩ ((ha.mv w2 (fun z => z)).mv w3 (s1N (by decide)))
  rw [List.take_length] at ha
  have m01 := m0.trans m1
  have h1 := h.mv0 m01
  refine ⟨_, rfl, D', rfl, ⟨_, SqL.of hy⟩, fun D2 hD2 => ?_⟩
  have hln := ha.len
  refine lc_gen (ρ := ρ1) (walk_list (xs := ys)) (by omega) cN (fun i => (canon m.kn)[i]?.bind gDB) (fun ρ' H' m => SqL.of (m.at0 hy)) (fun i x ρ2 Hz H2 hi m2 y Ny Nn hNy hNn => ?_) hD2 fun ρ2 H2 zs m2 r2 hz hza => ?_
  · obtain ⟨rfl, hx⟩ := y
    obtain ⟨⟨s, e⟩, q, t, hc, rfl, _, hq, ht⟩ := (ha.mv m2 (fun z => z)).get hx
    have ht : H2 t = some (.tup (recV e.r)) := ht
    refine ⟨rfl, _, rfl, q, _, _, _, rfl, rfl, SqL.of hq, rfl, t, _, _, _, rfl, rfl, SqT.of ht, rfl, _, rfl, ?_⟩
    rcases Bool.eq_false_or_eq_true e.r.d with hd | hd
    · exact ite_tt hd ⟨_, rfl, q, _, _, _, rfl, rfl, SqL.of hq, rfl, t, _, _, _, rfl, rfl, SqT.of ht, rfl, hNy _ _ _ e.r.b (by rw [hc]; show gDB (s, e) = _; unfold gDB; rw [if_pos hd]) rfl Mv.refl⟩
    · exact ite_ff hd (hNn _ _ (by rw [hc]; show gDB (s, e) = _; unfold gDB; rw [if_neg (by rw [hd]; decide)]) Mv.refl)
  · rw [hln, fm_range] at hza
    rw [nats_of hza, natV_eq] at hz
    have cr := canon_rep m.kn
    refine ⟨D2, _, rfl, SqL.of hz, fun ns q hp hs hq => ?_⟩
    have e1 := sorted_blocks (blocks_nd u cr.nd fun x hx => (cr.mem _ _).mp hx) (blocks_mem hb cr) hp hs
    have m3 : Mv S0 ρ2 H2 _ _ := Mv.refl.new hq 0 (.lst (ns.map V.int))
    have hq3 : upd H2 q (.lst (ns.map V.int)) q = some (.lst (ns.map V.int)) := upd_same
    have m13 := m2.trans m3
    have hy3 := m13.at0 hy
    have ha3 := ha.mv m13 (fun z => z)
    have h3 := h1.mv0 m13
    refine ⟨_, rfl, _, rfl, c, _, p, m, D, on, nb, rfl, ⟨A, h3⟩, u, hb, hl, fun ρ5 H5 qv m5 r5 hqv => ⟨_, rfl, _, rfl, (show (3 : Nat) ≤ sizeLine by decide), fun ql hql => ?_⟩⟩
    have m6 : Mv S0 ρ5 H5 _ _ := Mv.refl.new hql 0 (.lst [.ref qv, .ref D', .ref q])
    have m56 := m5.trans m6
    refine k _ _ ql qv D' q ys ((m01.trans m13).trans m56) upd_same (m6.at0 hqv) (m56.at0 hy3) (ha3.mv m56 (fun z => z)) ?_
    have z := m56.at0 hq3
    rw [e1] at z
    rw [z, natV_eq]
    rfl
end
end Kb
set_option Elab.async false
set_option linter.all false
set_option maxRecDepth 100000
set_option maxHeartbeats 4000000
namespace Kb
open PySem PySem.Spec PyProof.Rows L2
theorem paired_get {α : Type} {R : α → V → Prop} : ∀ {l : List α} {ys : List V} {i : Nat} {x : α} {y : V}, Paired R l ys → l[i]? = some x → ys[i]? = some y → R x y
  | _, _, _, _, _, .nil, e, _ => by simp at e
  | _, _, 0, _, _, .cons r _, e1, e2 => by simp at e1 e2; subst e1; subst e2; exact r
  | _, _, i + 1, _, _, .cons _ t, e1, e2 => paired_get (i := i) t (by simpa using e1) (by simpa using e2)
theorem paired_len {α : Type} {R : α → V → Prop} : ∀ {l : List α} {ys : List V}, Paired R l ys → l.length = ys.length
  | _, _, .nil => rfl
  | _, _, .cons _ t => congrArg Nat.succ (paired_len t)
section
variable {H : Hp} {n : Nat}
theorem eqv_lst {p q : Addr} {xs ys : List V} (hp : H p = some (.lst xs)) (hq : H q = some (.lst ys)) (h : Paired (Eqv H n) xs ys) (hl : xs.length ≤ 10000) : Eqv H (n + 1) (.ref p) (.ref q) :=
  .inr ⟨p, q, xs, ys, rfl, rfl, .inl ⟨hp, hq⟩, paired_len h, hl, fun i x y hx hy => paired_get h hx hy⟩
theorem eqv_tup {p q : Addr} {xs ys : List V} (hp : H p = some (.tup xs)) (hq : H q = some (.tup ys)) (h : Paired (Eqv H n) xs ys) (hl : xs.length ≤ 10000) : Eqv H (n + 1) (.ref p) (.ref q) :=
  .inr ⟨p, q, xs, ys, rfl, rfl, .inr ⟨hp, hq⟩, paired_len h, hl, fun i x y hx hy => paired_get h hx hy⟩
theorem eqv_int {i : Int} : Eqv H n (.int i) (.int i) := eqv_flat True.intro
theorem eqv_bl {i : Bool} : Eqv H n (.bl i) (.bl i) := eqv_flat True.intro
theorem eqv_ints : ∀ l : List Int, Paired (Eqv H n) (l.map V.int) (l.map V.int)
  | [] => .nil
  | _ :: r => .cons eqv_int (eqv_ints r)
theorem eqv_rec {r : Rec} {t t' : Addr} (h : H t = some (.tup (recV r))) (h' : H t' = some (.tup (recV r))) : Eqv H (n + 1) (.ref t) (.ref t') :=
  eqv_tup h h' (.cons eqv_int (.cons eqv_int (.cons eqv_int (.cons eqv_bl .nil)))) (show (4 : Nat) ≤ 10000 by decide)
def EqC {α : Type} (c : Cell α) (n : Nat) : Prop := ∀ (H : Hp) (x : α) (u u' : V), c.R H x u → c.R H x u' → Eqv H n u u'
theorem eqc_I : EqC cI n := fun H x u u' h h' => by
  rw [show u = .int x from h, show u' = .int x from h']
  exact eqv_int
theorem eqc_R : EqC cR (n + 1) := fun H x u u' h h' => by
  cases x with
  | none =>
    rw [show u = .non from h, show u' = .non from h']
    exact eqv_flat True.intro
  | some r =>
    obtain ⟨t, rfl, ht⟩ := (show RecAt H r u from h)
    obtain ⟨t', rfl, ht'⟩ := (show RecAt H r u' from h')
    exact eqv_rec ht ht'
theorem eqc_W {α : Type} {c : Cell α} (e : EqC c n) : EqC (cW c) (n + 1) := fun H x u u' h h' => by
  obtain ⟨t, v, rfl, ht, hv⟩ := h
  obtain ⟨t', v', rfl, ht', hv'⟩ := h'
  exact eqv_tup ht ht' (.cons eqv_int (.cons (e H _ _ _ hv hv') .nil)) (show (2 : Nat) ≤ 10000 by decide)
theorem all_eqv {α : Type} {c : Cell α} (e : EqC c n) : ∀ {l : List α} {ys ys' : List V}, All c H l ys → All c H l ys' → Paired (Eqv H n) ys ys'
  | _, _, _, .nil, .nil => .nil
  | _, _, _, .cons r t, .cons r' t' => .cons (e H _ _ _ r r') (all_eqv e t t')
theorem rows_eqv {ρ ρ' : Ro} : ∀ {l : List (Nat × Ent)} {ys ys' : List V}, RowsV ρ H l ys → RowsV ρ' H l ys' → Paired (Eqv H (n + 2)) ys ys'
  | _, _, _, .nil, .nil => .nil
  | _, _, _, .cons ⟨q, t, e1, _, e3, e4⟩ r, .cons ⟨q', t', e1', _, e3', e4'⟩ r' => by
    subst e1
    subst e1'
    exact .cons (eqv_lst e3 e3' (.cons eqv_int (.cons (eqv_rec e4 e4') .nil)) (show (2 : Nat) ≤ 10000 by decide)) (rows_eqv r r')
end
section
variable {P : Program} {w : World} {K : PySem.W.Frag} {mg : Str → Option Value} {base : Heap}
def sp_Lstands (K : PySem.W.Frag) : Sp := Sp2 fun a b H Q => ∃ (c : Cfg) (ρ : Ro) (p mo : Addr) (m : Mem) (D : Ds) (nb : Nat), a = .ref p ∧ b = .ref mo ∧ PairAt K c ρ H p m D true ∧ ModAt c ρ H mo m D true ∧ Uq m.kn ∧ KB nb m.kn ∧ D.slow.sh.length = nb ∧ nb ≤ 10000 ∧ D.slow.wt.length ≤ 10000 ∧ D.fast.wt.length ≤ 10000 ∧
  ∀ (ρ' : Ro) (H' : Hp), Mv S0 ρ H ρ' H' → Q (.bl true) H'
theorem sc_L_stands : FnScope ["_law_pair_here", "_law_m", "_law_waits", "_law_found", "_law_known", "_law_rows", "_law_slot_here"] ["_law_pair_here", "_law_m"] (defScope s_L_stands) := ⟨rfl, rfl, rfl, by decide +kernel, rfl, by decide +kernel, by decide +kernel⟩
theorem c_L_stands (T : Txt K mg) : C8.Cal P w K mg base 10 "_law_stands" (sp_Lstands K) [] := by
  refine cal_of T.F_L_stands T.g_Lstands sc_L_stands len2 (fun _ _ _ _ _ _ us hl => match us, hl with | [_, _], _ => rfl) (fun cdv A outer s H vs Q E hr h => ?_)
  obtain ⟨a, b, rfl, c, ρ, p, mo, m, D, nb, rfl, rfl, ⟨A, h⟩, ⟨M, g⟩, u, hb, hl, nb4, w1l, w2l, k⟩ := h
  obtain ⟨Ls, xs⟩ := g.slow.mw
  obtain ⟨ws, hws, aws⟩ := xs.g.wt
  refine ⟨_, pss_cons (ps_set (i := 2) sc_L_stands.nd rfl (.inl rfl) (pe_lst (pa_cons (pe_callTy call_list_of (by rfl) T.f_list (by decide +kernel) (pa_cons (pe_ix (r := rIxL K) ix_list (pe_dget (hu_of hr) (pv 1) (pe_str) (fun _ _ => rfl)) (pe_int) (fun _ _ => rfl)) pa_nil)) (pa_cons (pe_ifExp (pt_cmpR op_isN (pe_dget (hu_of hr) (pv 1) (pe_str) (fun _ _ => rfl)) (pe_non) (nomark _)) (pe_lst (pa_nil)) (pe_callTy call_list_of (by rfl) T.f_list (by decide +kernel) (pa_cons (pe_ix (r := rIxL K) ix_list (pe_dget (hu_of hr) (pv 1) (pe_str) (fun _ _ => rfl)) (pe_int) (fun _ _ => rfl)) pa_nil))) pa_nil))))
      (pss_cons (ps_set (i := 3) sc_L_stands.nd rfl (.inl rfl) (pe_lst (pa_cons (pe_pr (p_P_hits T) hr (by decide) (pv 0)) (pa_cons (pe_pr (p_P_requests T) hr (by decide) (pv 0)) (pa_cons (pe_pr (p_P_counts T) hr (by decide) (pv 0)) (pa_cons (pe_callTy call_list_of (by rfl) T.f_list (by decide +kernel) (pa_cons (pe_pr (p_P_pending T) hr (by decide) (pv 0)) pa_nil)) (pa_cons (pe_pr (p_P_is_on T) hr (by decide) (pv 0)) pa_nil)))))))
      (pss_cons (ps_if (pt_not (pt_val (C8.pe_c (c_L_equal T 8) hr (by decide) rfl (pa_cons (pv 3) (pa_cons (pe_lst (pa_cons (pe_dget (hu_of hr) (pv 1) (pe_str) (fun _ _ => rfl)) (pa_cons (pe_dget (hu_of hr) (pv 1) (pe_str) (fun _ _ => rfl)) (pa_cons (C8.pe_c (c_L_counts T) hr (by decide) rfl (pa_cons (pv 1) pa_nil)) (pa_cons (pv 2) (pa_cons (pe_dget (hu_of hr) (pv 1) (pe_str) (fun _ _ => rfl)) pa_nil)))))) pa_nil))))) (pss_one (ps_ret (pe_bl))) (pss_nil))
      (pss_cons (ps_if (pt_not (pt_val (pe_dget (hu_of hr) (pv 1) (pe_str) (fun _ _ => rfl)))) (pss_one (ps_ret (pe_bl))) (pss_nil))
      (pss_cons (ps_set (i := 4) sc_L_stands.nd rfl (.inr rfl) (pe_pr (p_P_known T) hr (by decide) (pv 0)))
      (pss_cons (ps_lock (ps_setLc (i := 5) (own := [("_law_slot_here", 6)]) (by rfl) sc_L_stands.nd rfl rfl (sw_true rfl rfl rfl (by decide +kernel)) (g := gName 6) (pi_keys (pv 4)) (blkOk_by (own := [("_law_slot_here", 6)]) (N := ["_law_pair_here", "_law_m", "_law_waits", "_law_found", "_law_known", "_law_rows", "_law_slot_here"]) (sc := defScope s_L_stands) (by decide +kernel)) (fun _ _ _ _ _ => pg_name (i := 6) sc_L_stands.nd rfl (.inl rfl) (.inr rfl)) (fun _ _ _ _ _ => pts_nil) (fun _ _ _ _ _ => pe_lst (pa_cons (pv 6) (pa_cons (pe_dget (hu_of hr) (pv 4) (pv 6) (fun _ _ => rfl)) pa_nil)))))
      (pss_one (ps_ret (C8.pe_c (c_L_equal T 8) hr (by decide) rfl (pa_cons (pe_lst (pa_cons (pe_pr (p_P_block_values T) hr (by decide) (pv 0)) (pa_cons (pv 5) (pa_cons (pe_pr (p_P_dirty T) hr (by decide) (pv 0)) pa_nil)))) (pa_cons (C8.pe_c (c_L_shown T) hr (by decide) rfl (pa_cons (pv 1) pa_nil)) pa_nil)))))))))), ?_⟩
  refine ⟨_, rfl, mo, _, rfl, g.g "slow" _ rfl, M.s, _, _, _, rfl, rfl, SqL.of xs.hd, rfl, Ls.a3, ws, rfl, .inl (SqL.of hws), fun q1 hq1 => ?_⟩
  have m1 : Mv S0 ρ H _ _ := Mv.refl.new hq1 0 (.lst ws)
  have g1 := g.mv0 m1
  have aws1 := aws.mono m1.tups
  have hq1' : upd H q1 (.lst ws) q1 = some (.lst ws) := upd_same
  generalize upd H q1 (.lst ws) = H1 at *
  generalize rs ρ q1 0 = ρ1 at *
  obtain ⟨Lf, xf⟩ := g1.fast.mw
  obtain ⟨vs, hvs, avs⟩ := xf.g.wt
  refine ⟨_, rfl, mo, _, rfl, g1.g "fast" _ rfl, rfl, _, rfl, ite_ff (by simp) ⟨_, rfl, mo, _, rfl, g1.g "fast" _ rfl, M.f, _, _, _, rfl, rfl, SqL.of xf.hd, rfl, Lf.a3, vs, rfl, .inl (SqL.of hvs), fun q2 hq2 => ⟨(show (2 : Nat) ≤ sizeLine by decide), fun q3 hq3 => ?_⟩⟩⟩
  have w2 : Mv S0 ρ1 H1 _ _ := (Mv.refl.new hq2 0 (.lst vs)).new hq3 0 (.lst [.ref q1, .ref q2])
  have hq2' : upd H1 q2 (.lst vs) q2 = some (.lst vs) := upd_same
  have hq22 := (upd_ne (o := .lst [.ref q1, .ref q2]) (ne_of_none hq2' hq3)).trans hq2'
  have hq32 : upd (upd H1 q2 (.lst vs)) q3 (.lst [.ref q1, .ref q2]) q3 = some (.lst [.ref q1, .ref q2]) := upd_same
  have hq12 := w2.at0 hq1'
  have aws2 := aws1.mono w2.tups
  have avs2 := avs.mono w2.tups
  have m2 := m1.trans w2
  generalize upd (upd H1 q2 (.lst vs)) q3 (.lst [.ref q1, .ref q2]) = H2 at *
  generalize rs (rs ρ1 q2 0) q3 0 = ρ2 at *
  have h2 := h.mv0 m2
  have g2 := g.mv0 m2
  obtain ⟨dn2, ho2⟩ := h2.obj
  -- what the pair shows
  refine ⟨_, rfl, p, A.dx, _, rfl, ho2, _, rfl, c, ρ2, p, m, D, true, rfl, ⟨A, h2⟩, ?_⟩
  refine ⟨_, rfl, p, A.dx, _, rfl, ho2, _, rfl, c, ρ2, p, m, D, true, rfl, ⟨A, h2⟩, ?_⟩
  refine ⟨_, rfl, p, A.dx, _, rfl, ho2, _, rfl, c, ρ2, p, m, D, true, rfl, ⟨A, h2⟩, fun ρ3 H3 tc m3 htc => ?_⟩
  have h3 := h2.mv0 m3
  obtain ⟨dn3, ho3⟩ := h3.obj
  refine ⟨_, rfl, p, A.dx, _, rfl, ho3, _, rfl, c, ρ3, p, m, D, true, rfl, ⟨A, h3⟩, fun ρ4 H4 tp r1 r2 zs1 zs2 m4 htp hr1 hr2 az1 az2 => ?_⟩
  refine ⟨tp, _, rfl, .inr (SqT.of htp), fun lp hlp => ?_⟩
  have w5 : Mv S0 ρ4 H4 _ _ := Mv.refl.new hlp 0 (.lst [.ref r1, .ref r2])
  have hlp5 : upd H4 lp (.lst [.ref r1, .ref r2]) lp = some (.lst [.ref r1, .ref r2]) := upd_same
  have m35 := (m3.trans m4).trans w5
  have hr15 := w5.at0 hr1
  have hr25 := w5.at0 hr2
  have az15 := az1.mono w5.tups
  have az25 := az2.mono w5.tups
  have htc5 := w5.at0 (m4.at0 htc)
  have h5 := h2.mv0 m35
  have g5 := g2.mv0 m35
  generalize upd H4 lp (.lst [.ref r1, .ref r2]) = H5 at *
  generalize rs ρ4 lp 0 = ρ5 at *
  obtain ⟨dn5, ho5⟩ := h5.obj
  refine ⟨_, rfl, p, A.dx, _, rfl, ho5, _, rfl, c, ρ5, p, m, D, true, rfl, ⟨A, h5⟩, ⟨(show (5 : Nat) ≤ sizeLine by decide), fun lf hlf => ?_⟩⟩
  have w6 : Mv S0 ρ5 H5 _ _ := Mv.refl.new hlf 0 (.lst [.int m.hits, .int m.begun, .ref tc, .ref lp, .bl true])
  have hlf6 : upd H5 lf (.lst [.int m.hits, .int m.begun, .ref tc, .ref lp, .bl true]) lf = some (.lst [.int m.hits, .int m.begun, .ref tc, .ref lp, .bl true]) := upd_same
  have g6 := g5.mv0 w6
  have h6 := h5.mv0 w6
  have m26 := m35.trans w6
  -- what is expected
  refine ⟨_, rfl, _, rfl, mo, _, rfl, g6.g "hits" _ rfl, _, rfl, mo, _, rfl, g6.g "begun" _ rfl, _, rfl, _, rfl, c, _, mo, m, D, true, rfl, ⟨M, g6⟩, fun ρ7 H7 t7 m7 ht7 => ?_⟩
  have g7 := g6.mv0 m7
  refine ⟨_, rfl, _, rfl, mo, _, rfl, g7.g "on" _ rfl, (show (5 : Nat) ≤ sizeLine by decide), fun le hle => ?_⟩
  have w8 : Mv S0 ρ7 H7 _ _ := Mv.refl.new hle 0 (.lst [.int m.hits, .int m.begun, .ref t7, .ref q3, .bl true])
  have hle8 : upd H7 le (.lst [.int m.hits, .int m.begun, .ref t7, .ref q3, .bl true]) le = some (.lst [.int m.hits, .int m.begun, .ref t7, .ref q3, .bl true]) := upd_same
  have n78 := m7.trans w8
  have n58 := w6.trans n78
  have n28 := m35.trans n58
  refine ⟨_, _, rfl, rs ρ7 le 0, ?_, fun ρ9 H9 m9 => ⟨true, rfl, iteF ?_⟩⟩
  · refine eqv_lst (n := 6) (n78.at0 hlf6) hle8 (.cons eqv_int (.cons eqv_int (.cons ?_ (.cons ?_ (.cons eqv_bl .nil))))) (show (5 : Nat) ≤ 10000 by decide)
    · exact eqv_tup (n := 5) (n58.at0 htc5) (w8.at0 ht7) (eqv_ints _) (show (6 : Nat) ≤ 10000 by decide)
    · refine eqv_lst (n := 5) (n58.at0 hlp5) (n28.at0 hq32) (.cons ?_ (.cons ?_ .nil)) (show (2 : Nat) ≤ 10000 by decide)
      · exact eqv_lst (n := 4) (n58.at0 hr15) (n28.at0 hq12) (all_eqv (eqc_W (n := 3) eqc_I) (az15.mono n58.tups) (aws2.mono n28.tups)) (by rw [← az15.len]; exact w1l)
      · exact eqv_lst (n := 4) (n58.at0 hr25) (n28.at0 hq22) (all_eqv (eqc_W (n := 3) eqc_R) (az25.mono n58.tups) (avs2.mono n28.tups)) (by rw [← az25.len]; exact w2l)
  have m09 := m2.trans (n28.trans m9)
  have h9 := h.mv0 m09
  have g9 := g.mv0 m09
  clear hlf6 hle8 n78 n58 n28 w8 g7 w6 h6 g6 m26
  refine ⟨_, rfl, mo, _, rfl, g9.g "on" _ rfl, true, rfl, iteF ?_⟩
  obtain ⟨dn9, ho9⟩ := h9.obj
  refine ⟨_, rfl, p, A.dx, _, rfl, ho9, _, rfl, c, ρ9, p, m, D, rfl, ⟨A, h9⟩, fun ρa Ha qk kv ma ra hqk hkv => ?_⟩
  have hkl := hkv.len
  have hcl := canon_len m.kn
  have hk8 := h.kn.1
  -- the rows
  refine ⟨qk, _, hqk, trivial, fun od => ?_⟩
  refine ⟨_, rfl, qk, od, rfl, .inl ⟨_, upd_same, fun D' hD => ?_⟩⟩
  have wk := walk_keys (d := qk) (o := od) (kvs := kv)
  refine lc_it wk (fun i H' => ∃ ρ' ys, Mv S0 ρa (upd Ha qk (.frz od (.dK kv))) ρ' H' ∧ H' D' = some (.lst ys) ∧ ρ' D' = 0 ∧ RowsV ρ' H' ((canon m.kn).take i) ys)
    ⟨_, [], Mv.refl.new hD 0 _, upd_same, rs_same, .nil⟩ (fun i H' _ ⟨_, _, mm, _⟩ => mm.at0 upd_same) (fun i x Hz Hb hi ⟨ρb, ys, mb, hy, r0, ha⟩ y => ?_) (fun Hb ⟨ρb, ys, mb, hy, r0, ha⟩ => ?_)
  · obtain ⟨rfl, ky, vv, hkvi, rfl⟩ := y
    obtain ⟨⟨s, en⟩, hci, rfl, t, rfl, ht⟩ := hkv.at_ hkvi
    have hfz : Hb qk = some (.frz od (.dK kv)) := mb.at0 upd_same
    have ht2 : upd Ha qk (.frz od (.dK kv)) t = some (.tup (recV en.r)) := (upd_ne (ne_of ht hqk (by intro z; cases z))).trans ht
    have ht3 := mb.tups _ _ ht2
    have dg : DGet Hb qk (.int (s : Int)) (some (.ref t)) := DGet.up (H' := Hb) (k := .inl (s : Int)) (.inr ⟨od, hfz⟩) rfl (valV_mem hkv.nd (List.mem_of_getElem? hkvi)).symm
    have hyl := ha.len
    rw [List.length_take] at hyl
    refine ⟨rfl, _, rfl, _, rfl, _, rfl, qk, _, rfl, dg, (show (2 : Nat) ≤ sizeLine by decide), fun q hq => ?_⟩
    have w2 : Mv S0 ρb Hb _ _ := Mv.refl.new hq 7000 (.lst [.int (s : Int), .ref t])
    have hy2 := w2.at0 hy
    have r2 := w2.ro hy r0
    have w3 : Mv (S1 0) _ _ (rs ρb q 7000) (upd (upd Hb q (.lst [.int (s : Int), .ref t])) D' (.lst (ys ++ [.ref q]))) := Mv.refl.wr hy2 (fun xs z => by cases z) (.inr r2) _
    have hq2 : upd Hb q (.lst [.int (s : Int), .ref t]) q = some (.lst [.int (s : Int), .ref t]) := upd_same
    have rq2 : rs ρb q 7000 q = 7000 := rs_same
    refine ⟨ys, hy2, Nat.lt_of_le_of_lt (show ys.length ≤ 8 by omega) (by decide), _, ys ++ [.ref q], (mb.trans w2).wr hy2 (fun xs z => by cases z) (.inl hD) _, upd_same, r2, ?_⟩
    rw [List.take_succ, hci]
    exact RowsV.snoc ⟨q, t, rfl, rq2, w3.keeps hq2 rq2 (s1N (by decide)), w3.tups _ _ (w2.tups _ _ ht3)⟩ ((ha.mv w2 (fun z => z)).mv w3 (s1N (by decide)))
  rw [hkl, List.take_length] at ha
  obtain ⟨f1, f2⟩ := Mv.unlk hqk mb
  have nD : D' ≠ qk := ne_of hy f1 (by intro z; cases z)
  refine ⟨f1, ?_⟩
  have w4 : Mv (S1 (ρb qk)) ρb Hb ρb (upd Hb qk (.dK kv)) := Mv.refl.wr f1 (fun xs z => by cases z) (.inr (show S1 (ρb qk) (ρb qk) from rfl)) _
  have rqk : ρb qk = 0 := (mb.role qk _ upd_same).trans ra
  have hac := ha.mv w4 (fun (z : 7000 = ρb qk) => absurd (z.trans rqk) (by decide))
  have hyc := (upd_ne (o := .dK kv) nD).trans hy
  generalize upd Hb qk (.dK kv) = Hc at *
  have m9c := ma.trans f2
  have hc := h9.mv0 m9c
  have gc := g9.mv0 m9c
  obtain ⟨dnc, hoc⟩ := hc.obj
  refine ⟨_, rfl, p, A.dx, _, rfl, hoc, _, rfl, c, ρb, p, m, D, nb, rfl, ⟨A, hc⟩, u, hb, hl, fun ρd Hd qv md rv hqv => ?_⟩
  have hd := hc.mv0 md
  obtain ⟨dnd, hod⟩ := hd.obj
  refine ⟨_, rfl, _, rfl, p, A.dx, _, rfl, hod, _, rfl, c, ρd, p, m, D, nb, rfl, ⟨A, hd⟩, u, hb, fun ρe He qd me re hqd => ⟨(show (3 : Nat) ≤ sizeLine by decide), fun lf hlf => ?_⟩⟩
  have we : Mv S0 ρe He _ _ := Mv.refl.new hlf 0 (.lst [.ref qv, .ref D', .ref qd])
  have hlfe : upd He lf (.lst [.ref qv, .ref D', .ref qd]) lf = some (.lst [.ref qv, .ref D', .ref qd]) := upd_same
  have mce := (md.trans me).trans we
  have gf := gc.mv0 mce
  refine ⟨_, rfl, _, rfl, c, _, mo, m, D, true, nb, rfl, ⟨M, gf⟩, u, hb, hl, fun ρg Hg lq v1 v2 v3 zs mg2 hlq hv1 hv2 hrows hv3 => ?_⟩
  have nE := we.trans mg2
  have nD2 := me.trans nE
  have nC := md.trans nD2
  refine ⟨_, _, rfl, ρg, ?_, fun ρh Hh mh => k _ _ ((m09.trans m9c).trans (nC.trans mh))⟩
  refine eqv_lst (n := 6) (mg2.at0 hlfe) hlq (.cons ?_ (.cons ?_ (.cons ?_ .nil))) (show (3 : Nat) ≤ 10000 by decide)
  · exact eqv_lst (n := 5) (nD2.at0 hqv) hv1 (eqv_ints _) (by rw [List.length_map, vals_len, hl]; exact nb4)
  · exact eqv_lst (n := 5) (nC.at0 hyc) hv2 (rows_eqv (n := 3) (hac.mv nC (fun z => z)) hrows) (by rw [hac.len]; omega)
  · refine eqv_lst (n := 5) (nE.at0 hqd) hv3 (by rw [natV_eq]; exact eqv_ints _) ?_
    unfold natV
    rw [List.length_map, dirtyB_eq]
    have z := List.length_filter_le (hasD m.kn) (List.range nb)
    rw [List.length_range] at z
    omega
end
end Kb
set_option Elab.async false
set_option linter.all false
set_option maxRecDepth 100000
set_option maxHeartbeats 4000000
/-! The plain laws: what a request and a restart keep. No program in sight. -/
namespace Kb
/-! ### what is known agrees with the fast disk -/
def Lk (kn : Kn) (D : Ds) : Prop := ∀ s e, Kn.at kn s = some e → ∃ r, D.fast.sh[s]? = some (some r) ∧ r.v = e.r.v
structure Gm (nb ns : Nat) (kn : Kn) (D : Ds) : Prop where
  uq : Uq kn
  kb : KB nb kn
  kl : kn.length = ns
  lk : Lk kn D
def StG (nb ns : Nat) (st : Stp) : Prop := stOk nb ns st ∧ ∀ s r, st = .fast s (some r) → r.b < nb
def Sub (kn kn' : Kn) : Prop := kn'.length = kn.length ∧ ∀ s e', Kn.at kn' s = some e' → ∃ e, Kn.at kn s = some e ∧ e.r.b = e'.r.b ∧ e.r.v = e'.r.v
theorem Sub.refl {kn : Kn} : Sub kn kn := ⟨rfl, fun _ e h => ⟨e, h, rfl, rfl⟩⟩
theorem Sub.trans {a b c : Kn} (h : Sub a b) (g : Sub b c) : Sub a c := ⟨g.1.trans h.1, fun s e he => by
  obtain ⟨e1, h1, b1, v1⟩ := g.2 s e he
  obtain ⟨e2, h2, b2, v2⟩ := h.2 s e1 h1
  exact ⟨e2, h2, b2.trans b1, v2.trans v1⟩⟩
theorem Gm.sub {nb ns : Nat} {kn kn' : Kn} {D : Ds} (h : Gm nb ns kn D) (s : Sub kn kn') : Gm nb ns kn' D := by
  refine ⟨fun i j e e' he he' hb => ?_, fun i e he => ?_, s.1.trans h.kl, fun i e he => ?_⟩
  · obtain ⟨e1, h1, b1, _⟩ := s.2 i e he
    obtain ⟨e2, h2, b2, _⟩ := s.2 j e' he'
    exact h.uq i j e1 e2 h1 h2 (b1.trans (hb.trans b2.symm))
  · obtain ⟨e1, h1, b1, _⟩ := s.2 i e he
    rw [← b1]
    exact h.kb i e1 h1
  · obtain ⟨e1, h1, _, v1⟩ := s.2 i e he
    obtain ⟨r, q1, q2⟩ := h.lk i e1 h1
    exact ⟨r, q1, q2.trans v1⟩
theorem sub_begin {m : Mem} {b : Nat} : Sub m.kn (begin_ m b).2.kn := ⟨begin_len, fun s e he => by
  obtain ⟨e', h1, h2⟩ := begin_dom he
  exact ⟨e', h1, by rw [h2], by rw [h2]⟩⟩
theorem sub_set {kn : Kn} {s : Nat} {e0 e : Ent} (h : Kn.at kn s = some e0) (hb : e0.r.b = e.r.b) (hv : e0.r.v = e.r.v) : Sub kn (kn.set s (some e)) := ⟨set_len, fun j e' he => by
  rw [at_set (at_lt h)] at he
  by_cases z : j = s
  · rw [if_pos z] at he
    cases he
    exact ⟨e0, by rw [z]; exact h, hb, hv⟩
  · rw [if_neg z] at he
    exact ⟨e', he, rfl, rfl⟩⟩
theorem sub_clean {c : Cfg} {m : Mem} {s : Nat} : Sub m.kn (clean c m s).1.kn := by
  cases q : Kn.at m.kn s with
  | none =>
    unfold clean
    rw [q]
    exact Sub.refl
  | some e =>
    rw [clean_at q]
    exact sub_set q rfl rfl
theorem sub_drop {m : Mem} {s : Nat} : Sub m.kn (drop m s).kn := ⟨drop_len, fun j e he => by
  have hj := at_lt he
  rw [drop_len] at hj
  have he : Kn.at (m.kn.set s none) j = some e := he
  by_cases hs : s < m.kn.length
  · rw [at_set hs] at he
    by_cases z : j = s
    · rw [if_pos z] at he; cases he
    · rw [if_neg z] at he
      exact ⟨e, he, rfl, rfl⟩
  · rw [List.set_eq_of_length_le (by omega)] at he
    exact ⟨e, he, rfl, rfl⟩⟩
theorem drop_at {m : Mem} {s : Nat} (h : s < m.kn.length) : Kn.at (drop m s).kn s = none := by
  show Kn.at (m.kn.set s none) s = none
  rw [at_set h, if_pos rfl]
/-! ### steps -/
def Cons (kn : Kn) : Stp → Prop
  | .fast s (some r) => ∀ e, Kn.at kn s = some e → r.v = e.r.v
  | .fast s none => Kn.at kn s = none
  | _ => True
theorem app_fl (D : Ds) (st : Stp) : (app D st).fast.sh.length = D.fast.sh.length := by
  cases st with
  | fast s r => show (D.fast.sh.set s r).length = _; rw [List.length_set]
  | _ => rfl
theorem run_fl : ∀ (l : List Stp) (D : Ds), (run l D).fast.sh.length = D.fast.sh.length
  | [], _ => rfl
  | s :: l, D => by rw [run_cons, run_fl l, app_fl]
theorem lk_app {kn : Kn} {D : Ds} {st : Stp} (h : Lk kn D) (hc : Cons kn st) : Lk kn (app D st) := fun s e he => by
  obtain ⟨r, h1, h2⟩ := h s e he
  cases st with
  | fast s' o =>
    show ∃ r, (D.fast.sh.set s' o)[s]? = some (some r) ∧ r.v = e.r.v
    rw [List.getElem?_set]
    by_cases z : s' = s
    · subst z
      have hl := (List.getElem?_eq_some_iff.mp h1).1
      rw [if_pos rfl, if_pos hl]
      cases o with
      | none =>
        have hc : Kn.at kn s' = none := hc
        rw [hc] at he
        cases he
      | some r' => exact ⟨r', rfl, hc e he⟩
    · rw [if_neg z]
      exact ⟨r, h1, h2⟩
  | _ => exact ⟨r, h1, h2⟩
theorem lk_run {kn : Kn} : ∀ {l : List Stp} {D : Ds}, Lk kn D → (∀ st ∈ l, Cons kn st) → Lk kn (run l D)
  | [], _, h, _ => h
  | s :: l, D, h, hc => by
    rw [run_cons]
    exact lk_run (lk_app h (hc s List.mem_cons_self)) fun st hs => hc st (List.mem_cons_of_mem _ hs)
theorem Gm.run {nb ns : Nat} {kn : Kn} {D : Ds} {l : List Stp} (h : Gm nb ns kn D) (hc : ∀ st ∈ l, Cons kn st) : Gm nb ns kn (run l D) := ⟨h.uq, h.kb, h.kl, lk_run h.lk hc⟩
/-! ### clean, take -/
theorem clean_gm {c : Cfg} {nb ns : Nat} {m : Mem} {D : Ds} {s : Nat} (h : Gm nb ns m.kn D) : Gm nb ns (clean c m s).1.kn (run (clean c m s).2 D) ∧ ∀ st ∈ (clean c m s).2, StG nb ns st := by
  cases q : Kn.at m.kn s with
  | none =>
    unfold clean
    rw [q]
    exact ⟨h, fun st hs => absurd hs List.not_mem_nil⟩
  | some e =>
    have hk := h.kb s e q
    have hs := at_lt q
    rw [h.kl] at hs
    have h1 := h.sub (sub_clean (c := c) (m := m) (s := s))
    rw [clean_at q] at h1 ⊢
    refine ⟨h1.run fun st hst => ?_, fun st hst => ?_⟩
    · obtain ⟨w, _, rfl⟩ := List.mem_map.mp hst
      cases w with
      | mark =>
        intro e' he'
        have he' : Kn.at (m.kn.set s (some { e with r := { e.r with d := false } })) s = some e' := he'
        rw [at_set (at_lt q), if_pos rfl] at he'
        cases he'
        rfl
      | _ => exact True.intro
    · obtain ⟨w, _, rfl⟩ := List.mem_map.mp hst
      cases w with
      | mark => exact ⟨hs, fun s' r' z => by cases z; exact hk⟩
      | slow => exact ⟨hk, fun s' r' z => by cases z⟩
      | _ => exact ⟨True.intro, fun s' r' z => by cases z⟩
theorem cleanL_gm {c : Cfg} {nb ns : Nat} : ∀ {l : List Nat} {m : Mem} {D : Ds}, Gm nb ns m.kn D → Gm nb ns (cleanL c l m).1.kn (run (cleanL c l m).2 D) ∧ ∀ st ∈ (cleanL c l m).2, StG nb ns st
  | [], _, _, h => ⟨h, fun st hs => absurd hs List.not_mem_nil⟩
  | s :: l, m, D, h => by
    obtain ⟨a1, a2⟩ := clean_gm (c := c) (s := s) h
    obtain ⟨b1, b2⟩ := cleanL_gm (l := l) a1
    refine ⟨?_, fun st hs => ?_⟩
    · show Gm nb ns (cleanL c l (clean c m s).1).1.kn (run ((clean c m s).2 ++ (cleanL c l (clean c m s).1).2) D)
      rw [run_app]
      exact b1
    · have hs : st ∈ (clean c m s).2 ++ (cleanL c l (clean c m s).1).2 := hs
      rcases List.mem_append.mp hs with z | z
      · exact a2 st z
      · exact b2 st z
theorem take_gm {c : Cfg} {nb ns : Nat} {m : Mem} {D : Ds} (h : Gm nb ns m.kn D) : Gm nb ns (take c m).2.1.kn (run (take c m).2.2 D) ∧ (∀ st ∈ (take c m).2.2, StG nb ns st) ∧ Sub m.kn (take c m).2.1.kn := by
  cases hf : frees m.kn with
  | cons s r =>
    rw [take_free hf]
    exact ⟨h, fun st hs => absurd hs List.not_mem_nil, Sub.refl⟩
  | nil =>
    cases hc : clears m.kn with
    | cons s r =>
      rw [take_clear hf hc]
      exact ⟨h.sub sub_drop, fun st hs => absurd hs List.not_mem_nil, sub_drop⟩
    | nil =>
      cases ho : oldest m.kn with
      | nil =>
        unfold take
        rw [hf, hc, ho]
        exact ⟨h, fun st hs => absurd hs List.not_mem_nil, Sub.refl⟩
      | cons p r =>
        rw [take_dirty hf hc ho]
        obtain ⟨a1, a2⟩ := clean_gm (c := c) (s := p.2) h
        exact ⟨a1.sub sub_drop, a2, (sub_clean (c := c) (s := p.2)).trans sub_drop⟩
/-! ### words -/
theorem knowE_r {o : Option Ent} {r : Rec} {now : Int} : (knowE o r now).r = r := by
  unfold knowE
  cases o with
  | none => rfl
  | some e =>
    show (if e.r.b = r.b then { e with r := r } else (⟨r, now, now, 1⟩ : Ent)).r = r
    by_cases q : e.r.b = r.b
    · rw [if_pos q]
    · rw [if_neg q]
theorem know_at {m : Mem} {t s : Nat} {r : Rec} (h : t < m.kn.length) : Kn.at (know m t r).kn s = if s = t then some (knowE (Kn.at m.kn t) r (m.begun - 1)) else Kn.at m.kn s := at_set h
def Bi (kn : Kn) (n : Nat) (own tk : Option Nat) : Prop := ∀ s e, Kn.at kn s = some e → e.r.b = n → some s = own ∨ some s = tk
theorem Bi.sub {kn kn' : Kn} {n : Nat} {own tk : Option Nat} (h : Bi kn n own tk) (s : Sub kn kn') : Bi kn' n own tk := fun i e he hb => by
  obtain ⟨e1, h1, b1, _⟩ := s.2 i e he
  exact h i e1 h1 (b1.trans hb)
/-- a record of a block is known in a slot, the block is known nowhere else -/
theorem know_gm {nb ns : Nat} {m : Mem} {D : Ds} {t : Nat} {r : Rec} {kn' : Kn} (h : Gm nb ns m.kn D) (fl : D.fast.sh.length = ns) (ht : t < m.kn.length) (hr : r.b < nb) (hs : Sub (know m t r).kn kn')
    (hb : ∀ s e, s ≠ t → Kn.at kn' s = some e → e.r.b ≠ r.b) : Gm nb ns kn' (app D (.fast t (some r))) := by
  have key : ∀ s e, Kn.at kn' s = some e → (s = t ∧ e.r.b = r.b ∧ e.r.v = r.v) ∨ (s ≠ t ∧ e.r.b ≠ r.b ∧ ∃ e0, Kn.at m.kn s = some e0 ∧ e0.r.b = e.r.b ∧ e0.r.v = e.r.v) := fun s e he => by
    obtain ⟨e1, h1, b1, v1⟩ := hs.2 s e he
    rw [know_at ht] at h1
    by_cases z : s = t
    · rw [if_pos z] at h1
      cases h1
      rw [knowE_r] at b1 v1
      exact .inl ⟨z, b1.symm, v1.symm⟩
    · rw [if_neg z] at h1
      exact .inr ⟨z, hb s e z he, e1, h1, b1, v1⟩
  refine ⟨fun s s' e e' he he' hbe => ?_, fun s e he => ?_, ?_, fun s e he => ?_⟩
  · rcases key s e he with ⟨z1, z2, _⟩ | ⟨z1, z2, e0, z3, z4, _⟩ <;> rcases key s' e' he' with ⟨y1, y2, _⟩ | ⟨y1, y2, e0', y3, y4, _⟩
    · rw [z1, y1]
    · exact absurd (hbe.symm.trans z2) y2
    · exact absurd (hbe.trans y2) z2
    · exact h.uq s s' e0 e0' z3 y3 (z4.trans (hbe.trans y4.symm))
  · rcases key s e he with ⟨z1, z2, _⟩ | ⟨z1, z2, e0, z3, z4, _⟩
    · rw [z2]; exact hr
    · rw [← z4]; exact h.kb s e0 z3
  · rw [hs.1, know_len, h.kl]
  · show ∃ q, (D.fast.sh.set t (some r))[s]? = some (some q) ∧ q.v = e.r.v
    rw [List.getElem?_set]
    rcases key s e he with ⟨z1, _, z3⟩ | ⟨z1, _, e0, z3, _, z5⟩
    · rw [if_pos z1.symm, if_pos (by rw [fl, ← h.kl]; exact ht)]
      exact ⟨r, rfl, z3.symm⟩
    · rw [if_neg (fun z => z1 z.symm)]
      obtain ⟨q, q1, q2⟩ := h.lk s e0 z3
      exact ⟨q, q1, q2.trans z5⟩
theorem sub_dropO {m : Mem} {o : Option Nat} : Sub m.kn (dropO m o).kn := by
  cases o with
  | none => exact Sub.refl
  | some s => exact sub_drop
theorem dropO_at {m : Mem} {o : Option Nat} {s : Nat} (ho : ∀ s, o = some s → s < m.kn.length) (h : some s = o) : Kn.at (dropO m o).kn s = none := by
  cases o with
  | none => cases h
  | some s' =>
    cases h
    exact drop_at (ho _ rfl)
theorem word_gm {nb ns : Nat} {m : Mem} {D : Ds} {wd : Wd} {y : Way} {r : Rec} {own tk : Option Nat} (h : Gm nb ns m.kn D) (fl : D.fast.sh.length = ns) (hr : r.b < nb) (bi : Bi m.kn r.b own tk) (ho : ∀ s, own = some s → s < ns) (ht : ∀ s, tk = some s → s < ns) :
    Gm nb ns (word wd m y r own tk).1.kn (run (word wd m y r own tk).2 D) ∧ (∀ st ∈ (word wd m y r own tk).2, StG nb ns st) ∧ Bi (word wd m y r own tk).1.kn r.b own tk := by
  have one : ∀ st : Stp, Cons m.kn st → StG nb ns st → Gm nb ns m.kn (run [st] D) ∧ (∀ st' ∈ [st], StG nb ns st') ∧ Bi m.kn r.b own tk := fun st hc hg => ⟨h.run fun st' z => by rw [List.mem_singleton.mp z]; exact hc, fun st' z => by rw [List.mem_singleton.mp z]; exact hg, bi⟩
  have nil : Gm nb ns m.kn (run [] D) ∧ (∀ st' ∈ ([] : List Stp), StG nb ns st') ∧ Bi m.kn r.b own tk := ⟨h, fun st hs => absurd hs List.not_mem_nil, bi⟩
  cases wd with
  | slow => exact one (.slow r.b r.v) True.intro ⟨hr, fun s r' z => by cases z⟩
  | sslow => exact one .sslow True.intro ⟨True.intro, fun s r' z => by cases z⟩
  | sfast => exact one .sfast True.intro ⟨True.intro, fun s r' z => by cases z⟩
  | done => exact one .done True.intro ⟨True.intro, fun s r' z => by cases z⟩
  | mark => exact nil
  | fast =>
    cases tk with
    | none => exact nil
    | some t =>
      by_cases hy : y = .arou
      · subst hy
        rw [word_fastA]
        exact nil
      · rw [word_fast hy]
        have htl : t < m.kn.length := by rw [h.kl]; exact ht t rfl
        have stg : ∀ st' ∈ [Stp.fast t (some r)], StG nb ns st' := fun st' z => by
          rw [List.mem_singleton.mp z]
          exact ⟨ht t rfl, fun s r' y => by cases y; exact hr⟩
        have old : ∀ s e, s ≠ t → Kn.at (know m t r).kn s = some e → Kn.at m.kn s = some e := fun s e z he => by
          rw [know_at htl, if_neg z] at he
          exact he
        by_cases q : own = some t
        · rw [if_pos q]
          refine ⟨know_gm h fl htl hr Sub.refl fun s e z he hb => ?_, stg, fun s e he hb => ?_⟩
          · rcases bi s e (old s e z he) hb with w | w
            · rw [q] at w; exact z (Option.some.inj w)
            · exact z (Option.some.inj w)
          · by_cases z : s = t
            · exact .inr (by rw [z])
            · exact bi s e (old s e z he) hb
        · rw [if_neg q]
          have ho' : ∀ s, own = some s → s < (know m t r).kn.length := fun s z => by rw [know_len, h.kl]; exact ho s z
          have sb := sub_dropO (m := know m t r) (o := own)
          refine ⟨know_gm h fl htl hr sb fun s e z he hb => ?_, stg, fun s e he hb => ?_⟩
          · obtain ⟨e1, h1, b1, _⟩ := sb.2 s e he
            rcases bi s e1 (old s e1 z h1) (b1.trans hb) with w | w
            · rw [dropO_at ho' w] at he; cases he
            · exact z (Option.some.inj w)
          · obtain ⟨e1, h1, b1, _⟩ := sb.2 s e he
            by_cases z : s = t
            · exact .inr (by rw [z])
            · exact bi s e1 (old s e1 z h1) (b1.trans hb)
  | free =>
    cases own with
    | none => exact nil
    | some o =>
      by_cases q : y = .thr ∨ (y = .back ∧ some o = tk)
      · rw [word_freeN q]
        exact nil
      · rw [word_free q]
        have hol : o < m.kn.length := by rw [h.kl]; exact ho o rfl
        refine ⟨(h.sub sub_drop).run fun st z => ?_, fun st z => ?_, bi.sub sub_drop⟩
        · rw [List.mem_singleton.mp z]
          exact drop_at hol
        · rw [List.mem_singleton.mp z]
          exact ⟨ho o rfl, fun s r' y => by cases y⟩
theorem words_gm {nb ns : Nat} {y : Way} {r : Rec} {own tk : Option Nat} (hr : r.b < nb) (ho : ∀ s, own = some s → s < ns) (ht : ∀ s, tk = some s → s < ns) : ∀ {l : List Wd} {m : Mem} {D : Ds}, Gm nb ns m.kn D → D.fast.sh.length = ns → Bi m.kn r.b own tk →
    Gm nb ns (words y r own tk l m).1.kn (run (words y r own tk l m).2 D) ∧ ∀ st ∈ (words y r own tk l m).2, StG nb ns st
  | [], _, _, h, _, _ => ⟨h, fun st hs => absurd hs List.not_mem_nil⟩
  | x :: l, m, D, h, fl, bi => by
    obtain ⟨a1, a2, a3⟩ := word_gm (wd := x) (y := y) h fl hr bi ho ht
    obtain ⟨b1, b2⟩ := words_gm hr ho ht (y := y) (l := l) a1 ((run_fl _ _).trans fl) a3
    refine ⟨?_, fun st hs => ?_⟩
    · show Gm nb ns (words y r own tk l (word x m y r own tk).1).1.kn (run ((word x m y r own tk).2 ++ (words y r own tk l (word x m y r own tk).1).2) D)
      rw [run_app]
      exact b1
    · have hs : st ∈ (word x m y r own tk).2 ++ (words y r own tk l (word x m y r own tk).1).2 := hs
      rcases List.mem_append.mp hs with z | z
      · exact a2 st z
      · exact b2 st z
/-! ### a write, a read -/
theorem begin_own (m : Mem) (n : Nat) : (begin_ m n).1 = slotOf m.kn n := by
  cases h : slotOf m.kn n with
  | none => rw [begin_none h]
  | some s => rw [begin_some h]
theorem begin_bi {m : Mem} {n : Nat} (u : Uq m.kn) (tk : Option Nat) : Bi (begin_ m n).2.kn n (begin_ m n).1 tk := fun s e he hb => by
  obtain ⟨e', h1, h2⟩ := begin_dom he
  exact .inl (by rw [begin_own, slotOf_some u h1 (by rw [h2]; exact hb)])
theorem over_len {c : Cfg} {kn : Kn} : (over c kn).length ≤ kn.length := by
  have z := dirt_le kn
  unfold over
  rw [List.length_map, List.length_take]
  omega
theorem write_gm {c : Cfg} (ok : OkC c) {nb ns : Nat} {m : Mem} {D : Ds} {n : Nat} {v : Int} (h : Gm nb ns m.kn D) (fl : D.fast.sh.length = ns) (n1 : 1 ≤ ns) (n8 : ns ≤ 8) (hn : n < nb) :
    Gm nb ns (write c m n v).2.1.kn (run (write c m n v).2.2 D) ∧ (∀ st ∈ (write c m n v).2.2, StG nb ns st) ∧ (write c m n v).2.2.length ≤ 100 := by
  rw [write_eq]
  have g1 := h.sub (sub_begin (m := m) (b := n))
  have bi := fun tk => begin_bi (m := m) (n := n) h.uq tk
  have ho := fun s (z : (begin_ m n).1 = some s) => begin_lt z
  rw [h.kl] at ho
  generalize (begin_ m n).1 = own at *
  generalize (begin_ m n).2 = mb at *
  obtain ⟨mt, hmt⟩ : ∃ mt, mt = ({ mb with turn := mb.turn + 1 } : Mem) := ⟨_, rfl⟩
  rw [← hmt]
  have hk : mt.kn = mb.kn := by rw [hmt]
  rw [← hk] at g1 bi
  have tk : Gm nb ns (taken c mt own).2.1.kn (run (taken c mt own).2.2 D) ∧ (∀ st ∈ (taken c mt own).2.2, StG nb ns st) ∧ (taken c mt own).2.2.length ≤ 8 ∧ (∀ s, (taken c mt own).1 = some s → s < ns) ∧ Bi (taken c mt own).2.1.kn n own (taken c mt own).1 := by
    by_cases q : c.way = .back ∧ (own.elim true (isDirty mt.kn)) = true
    · rw [taken_yes q]
      obtain ⟨a1, a2, a3⟩ := take_gm (c := c) g1
      exact ⟨a1, a2, take_steps ok, fun s z => by cases z; have y := take_lt (c := c) (m := mt) (by rw [g1.kl]; exact n1); rw [g1.kl] at y; exact y, (bi _).sub a3⟩
    · rw [taken_no q]
      exact ⟨g1, fun st hs => absurd hs List.not_mem_nil, Nat.zero_le _, ho, bi _⟩
  obtain ⟨t1, t2, t3, t4, t5⟩ := tk
  generalize taken c mt own = k at *
  obtain ⟨w1, w2⟩ := words_gm (y := c.way) (r := ⟨n, v, m.turn, decide (c.way = .back)⟩) (l := c.rcp c.way) hn ho t4 t1 ((run_fl _ _).trans fl) t5
  obtain ⟨_, _, w3⟩ := words_ok (y := c.way) (r := ⟨n, v, m.turn, decide (c.way = .back)⟩) (own := own) (tk := k.1) hn (c.rcp c.way) k.2.1 t1.kb
  have rl := (rcp_at c ok c.way).1
  generalize words c.way ⟨n, v, m.turn, decide (c.way = .back)⟩ own k.1 (c.rcp c.way) k.2.1 = z at *
  show Gm nb ns _ (run (k.2.2 ++ (z.2 ++ _)) D) ∧ (∀ st ∈ k.2.2 ++ (z.2 ++ _), StG nb ns st) ∧ (k.2.2 ++ (z.2 ++ _)).length ≤ 100
  rw [run_app, run_app]
  by_cases hw : c.way = .back
  · rw [if_pos hw]
    obtain ⟨y1, y2⟩ := cleanL_gm (c := c) (l := over c z.1.kn) w1
    have y3 := cleanL_steps ok (over c z.1.kn) z.1
    have y4 := over_len (c := c) (kn := z.1.kn)
    rw [w1.kl] at y4
    refine ⟨y1, fun st hs => ?_, ?_⟩
    · rcases List.mem_append.mp hs with q | q
      · exact t2 st q
      · rcases List.mem_append.mp q with q | q
        · exact w2 st q
        · exact y2 st q
    · rw [List.length_append, List.length_append]
      omega
  · rw [if_neg hw]
    refine ⟨w1, fun st hs => ?_, ?_⟩
    · rcases List.mem_append.mp hs with q | q
      · exact t2 st q
      · rcases List.mem_append.mp q with q | q
        · exact w2 st q
        · exact absurd q List.not_mem_nil
    · rw [List.length_append, List.length_append, List.length_nil]
      omega
theorem read_gm {c : Cfg} (ok : OkC c) {nb ns : Nat} {m : Mem} {D : Ds} {n : Nat} {sv : Int} (h : Gm nb ns m.kn D) (fl : D.fast.sh.length = ns) (n1 : 1 ≤ ns) (hn : n < nb) :
    Gm nb ns (read c m n sv).2.1.kn (run (read c m n sv).2.2 D) ∧ (∀ st ∈ (read c m n sv).2.2, StG nb ns st) ∧ (read c m n sv).2.2.length ≤ 100 := by
  have g1 := h.sub (sub_begin (m := m) (b := n))
  cases q : slotOf m.kn n with
  | some s =>
    obtain ⟨e, he, _⟩ := slotOf_at q
    rw [read_hit q he]
    exact ⟨g1.run fun st z => by rw [List.mem_singleton.mp z]; exact True.intro, fun st z => by rw [List.mem_singleton.mp z]; exact ⟨True.intro, fun s r y => by cases y⟩, by simp⟩
  | none =>
    have bi := begin_bi (m := m) (n := n) h.uq none
    rw [begin_own, q] at bi
    rw [read_miss q]
    generalize (begin_ m n).2 = mb at *
    have slow : StG nb ns .rslow := ⟨True.intro, fun s r y => by cases y⟩
    by_cases hk : c.keep = true
    · rw [if_pos hk]
      have g0 : Gm nb ns mb.kn (app D .rslow) := ⟨g1.uq, g1.kb, g1.kl, lk_app g1.lk True.intro⟩
      obtain ⟨a1, a2, a3⟩ := take_gm (c := c) g0
      have lt := take_lt (c := c) (m := mb) (by rw [g1.kl]; exact n1)
      have tl := take_len (c := c) (m := mb)
      have ts := take_steps ok (m := mb)
      have bi2 := bi.sub a3
      generalize take c mb = k at *
      have htl : k.1 < k.2.1.kn.length := by rw [tl]; exact lt
      refine ⟨?_, fun st hs => ?_, ?_⟩
      · show Gm nb ns (know k.2.1 k.1 ⟨n, sv, 0, false⟩).kn (run (.rslow :: (k.2.2 ++ [.fast k.1 (some ⟨n, sv, 0, false⟩)])) D)
        rw [run_cons, run_app]
        refine know_gm a1 ((run_fl _ _).trans ((app_fl _ _).trans fl)) htl hn Sub.refl fun s e z he hb => ?_
        rw [know_at htl, if_neg z] at he
        rcases bi2 s e he hb with w | w <;> cases w
      · rcases List.mem_cons.mp hs with z | z
        · rw [z]; exact slow
        · rcases List.mem_append.mp z with z | z
          · exact a2 st z
          · rw [List.mem_singleton.mp z]
            exact ⟨by show k.1 < ns; rw [← g1.kl]; exact lt, fun s r y => by cases y; exact hn⟩
      · show (Stp.rslow :: (k.2.2 ++ [.fast k.1 (some ⟨n, sv, 0, false⟩)])).length ≤ 100
        rw [List.length_cons, List.length_append, List.length_singleton]
        omega
    · rw [if_neg hk]
      exact ⟨g1.run fun st z => by rw [List.mem_singleton.mp z]; exact True.intro, fun st z => by rw [List.mem_singleton.mp z]; exact slow, by simp⟩
theorem plan_gm {c : Cfg} (ok : OkC c) {nb ns : Nat} {m : Mem} {D : Ds} {rq : Rq} (h : Gm nb ns m.kn D) (fl : D.fast.sh.length = ns) (n1 : 1 ≤ ns) (n8 : ns ≤ 8) (hq : rq.Ok nb) :
    Gm nb ns (planM c m D rq).kn (run (planS c m D rq) D) ∧ (∀ st ∈ planS c m D rq, StG nb ns st) ∧ (planS c m D rq).length ≤ 100 := by
  cases rq with
  | rd b => exact read_gm ok h fl n1 hq
  | wr b v => exact write_gm ok h fl n1 n8 hq.1
/-! ### the disks -/
def RB (nb : Nat) (l : List (Option Rec)) : Prop := ∀ r, some r ∈ l → r.b < nb
structure Dg (nb ns N : Nat) (D : Ds) : Prop where
  s1 : D.slow.sh.length = nb
  s2 : D.slow.sy.length = nb
  f1 : D.fast.sh.length = ns
  f2 : D.fast.sy.length = ns
  b1 : RB nb D.fast.sh
  b2 : RB nb D.fast.sy
  w1 : D.slow.wt.length ≤ N
  w2 : D.fast.wt.length ≤ N
theorem Dg.app {nb ns N : Nat} {D : Ds} (h : Dg nb ns N D) {st : Stp} (hs : StG nb ns st) : Dg nb ns (N + 1) (app D st) := by
  obtain ⟨s1, s2, f1, f2, b1, b2, w1, w2⟩ := h
  cases st with
  | slow b v => exact ⟨by show (D.slow.sh.set b v).length = nb; rw [List.length_set]; exact s1, s2, f1, f2, b1, b2, by show (D.slow.wt ++ [(b, v)]).length ≤ _; rw [List.length_append, List.length_singleton]; omega, by show D.fast.wt.length ≤ _; omega⟩
  | fast s r =>
    refine ⟨s1, s2, by show (D.fast.sh.set s r).length = ns; rw [List.length_set]; exact f1, f2, fun r' hr' => ?_, b2, by show D.slow.wt.length ≤ _; omega, by show (D.fast.wt ++ [(s, r)]).length ≤ _; rw [List.length_append, List.length_singleton]; omega⟩
    have hr' : some r' ∈ D.fast.sh.set s r := hr'
    rcases List.mem_or_eq_of_mem_set hr' with z | z
    · exact b1 r' z
    · exact hs.2 s r' (by rw [z])
  | sslow => exact ⟨s1, s1, f1, f2, b1, b2, Nat.zero_le _, by show D.fast.wt.length ≤ _; omega⟩
  | sfast => exact ⟨s1, s2, f1, f1, b1, b1, by show D.slow.wt.length ≤ _; omega, Nat.zero_le _⟩
  | done => exact ⟨s1, s2, f1, f2, b1, b2, Nat.le_succ_of_le w1, Nat.le_succ_of_le w2⟩
  | rslow => exact ⟨s1, s2, f1, f2, b1, b2, Nat.le_succ_of_le w1, Nat.le_succ_of_le w2⟩
  | rfast => exact ⟨s1, s2, f1, f2, b1, b2, Nat.le_succ_of_le w1, Nat.le_succ_of_le w2⟩
theorem Dg.more {nb ns N M : Nat} {D : Ds} (h : Dg nb ns N D) (l : N ≤ M) : Dg nb ns M D := ⟨h.s1, h.s2, h.f1, h.f2, h.b1, h.b2, Nat.le_trans h.w1 l, Nat.le_trans h.w2 l⟩
theorem Dg.run {nb ns : Nat} : ∀ {l : List Stp} {N : Nat} {D : Ds}, Dg nb ns N D → (∀ st ∈ l, StG nb ns st) → Dg nb ns (N + l.length) (run l D)
  | [], _, _, h, _ => h
  | s :: l, N, D, h, hs => by
    rw [run_cons, List.length_cons]
    exact (Dg.run (l := l) (h.app (hs s List.mem_cons_self)) fun st z => hs st (List.mem_cons_of_mem _ z)).more (by omega)
theorem Dg.rm {nb ns N M : Nat} {D : Ds} (h : Dg nb ns N D) (l : N + M ≤ 1000000) : Rm nb ns M D := ⟨h.s1, h.f1, by have := h.w1; omega, by have := h.w2; omega⟩
theorem Gm.wf {nb ns : Nat} {m : Mem} {D : Ds} (h : Gm nb ns m.kn D) (n1 : 1 ≤ ns) : WF nb m D := ⟨h.uq, h.kb, by rw [h.kl]; exact n1, h.lk⟩
/-! ### a restart -/
theorem recAt_mem {rl : List (Option Rec)} {s : Nat} {r : Rec} (h : recAt rl s = some r) : some r ∈ rl := List.mem_of_getElem? (recAt_some h)
theorem freeAll_sh {D : Dk (Option Rec)} : ∀ (l : List Nat) (s : Nat), s ∉ l → (freeAll D l).sh[s]? = D.sh[s]? := by
  intro l
  induction l generalizing D with
  | nil => intro s _; rfl
  | cons a l ih =>
    intro s hs
    have e : freeAll D (a :: l) = freeAll (D.write a none) l := rfl
    rw [e, ih s (fun z => hs (List.mem_cons_of_mem _ z))]
    show (D.sh.set a none)[s]? = D.sh[s]?
    rw [List.getElem?_set, if_neg (fun z => hs (by rw [z]; exact List.mem_cons_self))]
theorem freeAll_rb {nb : Nat} {D : Dk (Option Rec)} : ∀ (l : List Nat), RB nb D.sh → RB nb (freeAll D l).sh := by
  intro l
  induction l generalizing D with
  | nil => intro h; exact h
  | cons a l ih =>
    intro h
    refine ih (D := D.write a none) fun r hr => ?_
    have hr : some r ∈ D.sh.set a none := hr
    rcases List.mem_or_eq_of_mem_set hr with z | z
    · exact h r z
    · cases z
theorem freed_best {rl : List (Option Rec)} {s : Nat} (h : isBest rl s = true) : s ∉ freed rl := fun z => by
  obtain ⟨_, z2⟩ := List.mem_filter.mp z
  unfold isBest at h
  cases q : recAt rl s with
  | none => rw [q] at h; cases h
  | some r =>
    rw [q] at z2
    have z2 : (r.d && !isBest rl s) = true := z2
    unfold isBest at z2
    rw [q] at h z2
    rw [h] at z2
    simp at z2
theorem restart_gm {nb ns N : Nat} {m : Mem} {D : Ds} (h : Dg nb ns N D) : Gm nb ns (restartM m D).kn (restartD D) ∧ Dg nb ns 0 (restartD D) := by
  have hrb : ∀ s r, recAt D.fast.sy s = some r → r.b < nb := fun s r q => h.b2 r (recAt_mem q)
  have sh : (restartF D.fast).sh = if freed D.fast.sy = [] then D.fast.sy else (freeAll { D.fast.fail0 with tr := D.fast.tr + D.fast.sy.length } (freed D.fast.sy)).sh := by
    unfold restartF
    by_cases q : freed D.fast.sy = []
    · rw [if_pos q, if_pos q]
      rfl
    · rw [if_neg q, if_neg q]
      rfl
  have sy : (restartF D.fast).sy = (restartF D.fast).sh := by
    unfold restartF
    by_cases q : freed D.fast.sy = []
    · rw [if_pos q]
      rfl
    · rw [if_neg q]
      rfl
  have wt : (restartF D.fast).wt = [] := by
    unfold restartF
    by_cases q : freed D.fast.sy = []
    · rw [if_pos q]
      rfl
    · rw [if_neg q]
      rfl
  have len : (restartF D.fast).sh.length = ns := by
    rw [sh]
    by_cases q : freed D.fast.sy = []
    · rw [if_pos q]; exact h.f2
    · rw [if_neg q, (freeAll_len _ _).1]
      exact h.f2
  have rb : RB nb (restartF D.fast).sh := by
    rw [sh]
    by_cases q : freed D.fast.sy = []
    · rw [if_pos q]; exact h.b2
    · rw [if_neg q]
      exact freeAll_rb _ h.b2
  refine ⟨⟨knOf_uq _ _, knOf_kb hrb, by show (knOf D.fast.sy _).length = ns; rw [knOf_len]; exact h.f2, fun s e he => ?_⟩, ⟨h.s2, h.s2, len, by show (restartF D.fast).sy.length = ns; rw [sy]; exact len, rb, by show RB nb (restartF D.fast).sy; rw [sy]; exact rb, Nat.zero_le _, by show (restartF D.fast).wt.length ≤ 0; rw [wt]; exact Nat.le_refl _⟩⟩
  obtain ⟨_, r, h1, h2, rfl⟩ := knOf_at he
  refine ⟨r, ?_, rfl⟩
  show (restartF D.fast).sh[s]? = some (some r)
  rw [sh]
  by_cases q : freed D.fast.sy = []
  · rw [if_pos q]
    exact recAt_some h1
  · rw [if_neg q, freeAll_sh _ _ (freed_best h2)]
    exact recAt_some h1
/-! ### the values -/
theorem fold_val {b : Nat} {v : Int} : ∀ (l : List (Nat × Ent)) (sh : List Int), (∀ x ∈ l, x.2.r.b = b → x.2.r.v = v) → b < sh.length → ((∃ x ∈ l, x.2.r.b = b) ∨ sh[b]? = some v) → (l.foldl setE sh)[b]? = some v
  | [], sh, _, _, h => h.elim (fun ⟨x, hx, _⟩ => absurd hx List.not_mem_nil) fun z => z
  | x :: l, sh, hu, hb, h => by
    rw [List.foldl_cons]
    refine fold_val l (setE sh x) (fun y hy => hu y (List.mem_cons_of_mem _ hy)) (by unfold setE; rw [List.length_set]; exact hb) ?_
    by_cases q : x.2.r.b = b
    · right
      unfold setE
      rw [q, List.getElem?_set, if_pos rfl, if_pos hb, hu x List.mem_cons_self q]
    · rcases h with ⟨y, hy, hyb⟩ | z
      · left
        rcases List.mem_cons.mp hy with e | m
        · rw [e] at hyb; exact absurd hyb q
        · exact ⟨y, m, hyb⟩
      · right
        unfold setE
        rw [List.getElem?_set, if_neg q]
        exact z
theorem read_val {c : Cfg} {m : Mem} {D : Ds} {b nb : Nat} (u : Uq m.kn) (hl : D.slow.sh.length = nb) (hb : b < nb) : (vals m.kn D.slow.sh)[b]? = some (read c m b (svAt D b)).1 := by
  rw [vals_canon]
  cases q : slotOf m.kn b with
  | some s =>
    obtain ⟨e, he, heb⟩ := slotOf_at q
    rw [read_hit q he]
    refine fold_val _ _ (fun x hx hxb => ?_) (by rw [hl]; exact hb) (.inl ⟨(s, e), canon_mem.mpr he, heb⟩)
    have h1 := canon_mem.mp (show (x.1, x.2) ∈ canon m.kn from hx)
    have h2 := u _ _ _ _ h1 he (hxb.trans heb.symm)
    rw [h2, he] at h1
    rw [← Option.some.inj h1]
  | none =>
    have hv : (read c m b (svAt D b)).1 = svAt D b := by
      rw [read_miss q]
      by_cases hk : c.keep = true
      · rw [if_pos hk]
      · rw [if_neg hk]
    rw [hv]
    have no : ∀ x ∈ canon m.kn, x.2.r.b ≠ b := fun x hx hxb => by
      have h1 := canon_mem.mp (show (x.1, x.2) ∈ canon m.kn from hx)
      rw [slotOf_some u h1 hxb] at q
      cases q
    refine fold_val _ _ (fun x hx hxb => absurd hxb (no x hx)) (by rw [hl]; exact hb) (.inr ?_)
    unfold svAt
    rw [List.getElem?_eq_getElem (by rw [hl]; exact hb)]
    rfl
/-- what was synced last: the best records over the slow disk -/
def lastV (rl : List (Option Rec)) (sh : List Int) (i : Nat) : List Int := ((bestL rl).take i).foldl (fun f p => f.set p.1 ((recAt rl p.2).elim 0 (·.v))) sh
theorem lastV_len {rl : List (Option Rec)} {sh : List Int} {i : Nat} : (lastV rl sh i).length = sh.length := by
  unfold lastV
  generalize (bestL rl).take i = l
  induction l generalizing sh with
  | nil => rfl
  | cons p l ih => rw [List.foldl_cons, ih, List.length_set]
theorem lastV_succ {rl : List (Option Rec)} {sh : List Int} {i : Nat} {p : Nat × Nat} (h : (bestL rl)[i]? = some p) : lastV rl sh (i + 1) = (lastV rl sh i).set p.1 ((recAt rl p.2).elim 0 (·.v)) := by
  unfold lastV
  rw [List.take_succ, h, List.foldl_append]
  rfl
def dfR : Rec := ⟨0, 0, 0, false⟩
theorem lastV_vals (rl : List (Option Rec)) (now : Int) (sh : List Int) : lastV rl sh (bestL rl).length = vals (knOf rl now) sh := by
  have bi := bestI rl rl.length
  rw [← bestL_to] at bi
  have rep : LRep ((bestL rl).map fun p => (p.2, (⟨(recAt rl p.2).getD dfR, now, now, 1⟩ : Ent))) (knOf rl now) := by
    refine ⟨?_, fun s e => ?_⟩
    · rw [List.map_map]
      have nd := bi.nd
      unfold List.Nodup at nd ⊢
      rw [List.pairwise_map] at nd ⊢
      refine List.Pairwise.imp_of_mem (fun {a b} ha hb q z => q ?_) nd
      have z : a.2 = b.2 := z
      obtain ⟨r1, a1, a2, _⟩ := bi.mem _ ha
      obtain ⟨r2, b1, b2, _⟩ := bi.mem _ hb
      rw [z, b1] at a1
      cases a1
      rw [← a2, b2]
    · constructor
      · intro h
        obtain ⟨p, hp, e1⟩ := List.mem_map.mp h
        obtain ⟨r, h1, h2, h3, _⟩ := bi.mem _ hp
        cases e1
        rw [h1]
        exact knOf_get h1 (best_slot.mp (List.mem_map.mpr ⟨_, hp, rfl⟩))
      · intro h
        obtain ⟨_, r, h1, h2, rfl⟩ := knOf_at h
        obtain ⟨p, hp, e⟩ := List.mem_map.mp (best_slot.mpr h2)
        refine List.mem_map.mpr ⟨p, hp, ?_⟩
        rw [e, h1]
        rfl
  rw [← vals_perm rep (knOf_uq rl now) sh]
  unfold lastV
  rw [List.take_length, List.foldl_map]
  have key : ∀ (l : List (Nat × Nat)) (f : List Int), (∀ p ∈ l, ∃ r, recAt rl p.2 = some r ∧ r.b = p.1) → l.foldl (fun f p => f.set p.1 ((recAt rl p.2).elim 0 (·.v))) f = l.foldl (fun f p => setE f (p.2, (⟨(recAt rl p.2).getD dfR, now, now, 1⟩ : Ent))) f := by
    intro l
    induction l with
    | nil => intro f _; rfl
    | cons p l ih =>
      intro f h
      obtain ⟨r, h1, h2⟩ := h p List.mem_cons_self
      rw [List.foldl_cons, List.foldl_cons, ih _ fun q hq => h q (List.mem_cons_of_mem _ hq)]
      congr 1
      unfold setE
      rw [h1, ← h2]
      rfl
  exact key _ _ fun p hp => let ⟨r, h1, h2, _⟩ := bi.mem _ hp; ⟨r, h1, h2⟩
end Kb
set_option Elab.async false
set_option linter.all false
set_option maxRecDepth 100000
set_option maxHeartbeats 4000000
namespace Kb
open PySem PySem.Spec PyProof.Rows L2 LamX
/-- what stands beside the pair and the model -/
structure Oth (P d : Addr) (ρ : Ro) (H : Hp) : Prop where
  d : DAt ρ H d
  t : TabAt P ρ H
theorem Oth.mv {P d : Addr} {S : Nat → Prop} {ρ ρ' : Ro} {H H' : Hp} (h : Oth P d ρ H) (m : Mv S ρ H ρ' H') (n : ∀ i, 3000 ≤ i → i < 5000 → ¬ S i) : Oth P d ρ' H' := ⟨h.d.mv m (n _ (by decide) (by decide)), h.t.mv m (n _ (by decide) (by decide)) (n _ (by decide) (by decide))⟩
theorem Oth.sl {P d : Addr} {ρ ρ' : Ro} {H H' : Hp} (h : Oth P d ρ H) (m : Mv SL ρ H ρ' H') (g : DAt ρ' H' d) : Oth P d ρ' H' := ⟨g, h.t.mv m (s1N (by decide)) (s1N (by decide))⟩
theorem spO : ∀ i, 3000 ≤ i → i < 5000 → ¬ SP i := fun i h1 h2 z => by unfold SP at z; omega
theorem smO : ∀ i, 3000 ≤ i → i < 5000 → ¬ SM i := fun i h1 h2 z => by unfold SM at z; omega
theorem slP : ∀ i, 1000 ≤ i → i < 2000 → ¬ SL i := fun i h1 h2 z => by unfold SL S1 at z; omega
theorem slM : ∀ i, 2000 ≤ i → i < 3000 → ¬ SL i := fun i h1 h2 z => by unfold SL S1 at z; omega
theorem sl0 : ¬ SL 0 := fun z => by unfold SL S1 at z; omega
structure MSt (K : PySem.W.Frag) (c : Cfg) (p mo d : Addr) (nb ns N : Nat) (ρ : Ro) (H : Hp) (m : Mem) (D : Ds) : Prop where
  p : PairAt K c ρ H p m D true
  o : ModAt c ρ H mo m D true
  e : Oth (sameP K) d ρ H
  g : Gm nb ns m.kn D
  k : Dg nb ns N D
section
variable {P : Program} {w : World} {K : PySem.W.Frag} {mg : Str → Option Value} {base : Heap} {c : Cfg} {p mo d : Addr} {nb ns N : Nat} {ρ ρ' : Ro} {H H' : Hp} {m : Mem} {D : Ds}
theorem MSt.mv {S : Nat → Prop} (h : MSt K c p mo d nb ns N ρ H m D) (v : Mv S ρ H ρ' H') (n : ∀ i, i < 5000 → ¬ S i) : MSt K c p mo d nb ns N ρ' H' m D :=
  ⟨h.p.mv v (fun i _ _ => n i (by omega)) (n 0 (by decide)), h.o.mv v (fun i _ _ => n i (by omega)) (n 0 (by decide)), h.e.mv v fun i _ h2 => n i h2, h.g, h.k⟩
theorem MSt.mv0 (h : MSt K c p mo d nb ns N ρ H m D) (v : Mv S0 ρ H ρ' H') : MSt K c p mo d nb ns N ρ' H' m D := h.mv v fun _ _ z => z
theorem MSt.sl (h : MSt K c p mo d nb ns N ρ H m D) (v : Mv SL ρ H ρ' H') (g : DAt ρ' H' d) : MSt K c p mo d nb ns N ρ' H' m D :=
  ⟨h.p.mv v slP sl0, h.o.mv v slM sl0, h.e.sl v g, h.g, h.k⟩
def sp_main (K : PySem.W.Frag) : Sp := Sp1 fun a H Q => ∃ (l : Addr) (ns : List Int), a = .ref l ∧ SqL K H l (ns.map V.int) ∧ ns.length ≤ 63 ∧ H (sameP K) = some (.tbl #[]) ∧ ∀ H', Q (.bl true) H'
theorem sc_L_main : FnScope ["_law_script", "_law_d", "_law_orders", "_law_pair_here", "_law_m", "_law_turn", "_law_k", "_law_lasting", "_law_records", "_law_best_here", "_law_block"] ["_law_script"] (defScope s_L_main) := ⟨rfl, rfl, rfl, by decide +kernel, rfl, by decide +kernel, by decide +kernel⟩
theorem f_L_main (T : Txt K mg) (TB : TabB base mg (He.cT K ("_law_same", none)).1 (sameP K)) : FnOk P w K mg base CX0 13 (He.ga K "law") (fdOf K (He.ga K "law")) ["_law_script"] (sp_main K) := by
  refine fn_ok T.F_L_main sc_L_main len1 (fun cdv A outer s H vs Q E hr h => ?_)
  obtain ⟨a, rfl, l, ns0, rfl, hl, hn, hT, k⟩ := h
  refine ⟨_, pss_cons (ps_set (i := 1) sc_L_main.nd rfl (.inl rfl) (C8.pe_c (c_L_random T) hr (by decide) rfl (pa_cons (pv 0) (pa_cons (pe_int) pa_nil))))
      (pss_cons (ps_set (i := 2) sc_L_main.nd rfl (.inl rfl) (C8.pe_c (c_L_recipes T) hr (by decide) rfl (pa_cons (pv 1) pa_nil)))
      (pss_cons (ps_asg (C8.pe_c (c_L_both T) hr (by decide) rfl (pa_cons (pv 1) (pa_cons (pe_int) (pa_cons (pe_int) (pa_cons (pv 2) pa_nil))))) (pg_tup (n := 2) rfl (pgs_cons (pg_name (i := 3) sc_L_main.nd rfl (.inl rfl)) (pgs_cons (pg_name (i := 4) sc_L_main.nd rfl (.inl rfl)) pgs_nil))))
      (pss_cons (ps_for PassesOwn.never rfl (pi_range1 rfl T.f_range (pa_cons (pe_int) pa_nil)) (pg_name (i := 5) sc_L_main.nd rfl (.inl rfl)) (pss_cons (ps_for PassesOwn.never rfl (pi_range1 rfl T.f_range (pa_cons (C8.pe_c (c_L_below T) hr (by decide) rfl (pa_cons (pv 1) (pa_cons (pe_int) pa_nil))) pa_nil)) (pg_name (i := 6) sc_L_main.nd rfl (.inl rfl)) (pss_one (ps_if (pt_not (pt_val (C8.pe_c (c_L_same T TB) hr (by decide) rfl (pa_cons (pv 3) (pa_cons (pv 4) (pa_cons (C8.pe_c (c_L_request T) hr (by decide) rfl (pa_cons (pv 1) (pa_cons (pe_callB call_len_seq (by rfl) T.f_len (by decide +kernel) (pa_cons (pe_ix (r := rIxL K) ix_list (pe_dget (hu_of hr) (pv 4) (pe_str) (fun _ _ => rfl)) (pe_int) (fun _ _ => rfl)) pa_nil)) pa_nil))) pa_nil)))))) (pss_one (ps_ret (pe_bl))) (pss_nil))))
      (pss_cons (ps_par (i := 7) (j := 8) (by rfl) sc_L_main.nd rfl rfl (by decide) rfl rfl (pa_cons (pe_callTy call_list_of (by rfl) T.f_list (by decide +kernel) (pa_cons (pe_ix (r := rIxL K) ix_list (pe_dget (hu_of hr) (pv 4) (pe_str) (fun _ _ => rfl)) (pe_int) (fun _ _ => rfl)) pa_nil)) (pa_cons (pe_callTy call_list_of (by rfl) T.f_list (by decide +kernel) (pa_cons (pe_ix (r := rIxL K) ix_list (pe_dget (hu_of hr) (pv 4) (pe_str) (fun _ _ => rfl)) (pe_int) (fun _ _ => rfl)) pa_nil)) pa_nil)) (by rfl))
      (pss_cons (ps_expr (C8.pe_mt0 (m_P_cut T) hr (by decide) (pv 3)))
      (pss_cons (ps_dput (hu_of hr) (pv 4) (pe_str) (pe_bl) rfl)
      (pss_cons (ps_if (PW.pt (pw_or (pt_not (pt_val (C8.pe_c (c_L_equal T 8) hr (by decide) rfl (pa_cons (C8.pe_mt (m_P_restart T) hr (by decide) (pv 3) (pa_cons (pe_tup (pa_nil)) (pa_cons (pe_tup (pa_nil)) pa_nil))) (pa_cons (C8.pe_c (c_L_restart T) hr (by decide) rfl (pa_cons (pv 4) (pa_cons (pe_tup (pa_nil)) (pa_cons (pe_tup (pa_nil)) pa_nil)))) pa_nil))))) (pw_or1 (pt_not (pt_val (C8.pe_c (c_L_stands T) hr (by decide) rfl (pa_cons (pv 3) (pa_cons (pv 4) pa_nil)))))))) (pss_one (ps_ret (pe_bl))) (pss_nil))
      (pss_cons (ps_set (i := 9) sc_L_main.nd rfl (.inl rfl) (C8.pe_c (c_L_best T) hr (by decide) rfl (pa_cons (pv 8) pa_nil)))
      (pss_cons (ps_lock (ps_for PassesOwn.never rfl (pi_keys (pv 9)) (pg_name (i := 10) sc_L_main.nd rfl (.inl rfl)) (pss_one (ps_asg (pe_ix (r := rIxT K) ix_tup (pe_ix (r := rIxL K) ix_list (pv 8) (pe_dget (hu_of hr) (pv 9) (pv 10) (fun _ _ => rfl)) (fun _ _ => rfl)) (pe_int) (fun _ _ => rfl)) (pg_sub (pv 7) (pv 10) set_list)))))
      (pss_cons (ps_if (pt_cmpR (op_neD hr.units) (pe_pr (p_P_block_values T) hr (by decide) (pv 3)) (pv 7) (nomark _)) (pss_one (ps_ret (pe_bl))) (pss_nil))
      (pss_cons (ps_set (i := 10) sc_L_main.nd rfl (.inl rfl) (C8.pe_c (c_L_below T) hr (by decide) rfl (pa_cons (pv 1) (pa_cons (pe_callB call_len_seq (by rfl) T.f_len (by decide +kernel) (pa_cons (pv 7) pa_nil)) pa_nil))))
      (pss_cons (ps_if (pt_cmpR op_ne (C8.pe_mt (m_P_read T) hr (by decide) (pv 3) (pa_cons (pv 10) pa_nil)) (pe_ix (r := rIxL K) ix_list (pv 7) (pv 10) (fun _ _ => rfl)) (nomark _)) (pss_one (ps_ret (pe_bl))) (pss_nil))
      (pss_one (ps_expr (C8.pe_c (c_L_go T) hr (by decide) rfl (pa_cons (pv 4) (pa_cons (pe_ix (r := rIxT K) ix_tup (C8.pe_c (c_L_read T) hr (by decide) rfl (pa_cons (pv 4) (pa_cons (pv 10) pa_nil))) (pe_int) (fun _ _ => rfl)) pa_nil))))))))))))))))
      (pss_one (ps_ret (C8.pe_c (c_L_stands T) hr (by decide) rfl (pa_cons (pv 3) (pa_cons (pv 4) pa_nil)))))))), ?_⟩
  have gt0 : TabAt (sameP K) (fun a => if a = sameP K then 4000 else 0) H := ⟨#[], hT, if_pos rfl, True.intro, fun pos cv hc => by
    have z : codeAmong pos [] = some cv := hc
    simp [codeAmong] at z⟩
  refine ⟨_, rfl, _, _, rfl, l, ns0, 33, (fun a => if a = sameP K then 4000 else 0), rfl, rfl, hl, hn, by decide, by decide, fun ρ1 H1 d m1 hd1 => ?_⟩
  have gt1 := gt0.mv m1 (fun z => z) (fun z => z)
  refine ⟨_, rfl, _, rfl, d, ρ1, rfl, hd1, fun ρ2 H2 lo ys ts ls hd2 m2 hlo rlo hrc => ?_⟩
  have gt2 := gt1.mv m2 (s1N (by decide)) (s1N (by decide))
  refine ⟨_, rfl, _, rfl, _, _, _, _, rfl, d, lo, ρ2, ys, ts, ls, rfl, rfl, rfl, rfl, hd2, hlo, rlo, hrc, fun ρ3 H3 t p mo c nb ns ht gp gm hd3 ok b1 b4 n1 n4 m3 => ⟨t, _, rfl, SqT.of ht, rfl, _, _, rfl, _, _, rfl, rfl, ?_⟩⟩
  have gt3 := gt2.mv m3 (fun (z : 4000 < 4000) => absurd z (by decide)) (fun (z : 4001 < 4000) => absurd z (by decide))
  have new1 : ∀ {α : Type} (n : Nat) (x : α), (Dk.new n x).sh.length = n := fun n x => List.length_replicate
  have M3 : MSt K c p mo d nb ns 100 ρ3 H3 ⟨nones ns, 1, 0, 0⟩ ⟨Dk.new nb 0, Dk.new ns none⟩ := by
    refine ⟨gp, gm, ⟨hd3, gt3⟩, ⟨fun s s' e e' h1 => ?_, fun s e h1 => ?_, nones_len, fun s e h1 => ?_⟩, ⟨List.length_replicate, List.length_replicate, List.length_replicate, List.length_replicate, fun r hr => ?_, fun r hr => ?_, Nat.zero_le _, Nat.zero_le _⟩⟩
    · rw [at_nones] at h1; cases h1
    · rw [at_nones] at h1; cases h1
    · rw [at_nones] at h1; cases h1
    · have hr : some r ∈ List.replicate ns none := hr
      have z := List.eq_of_mem_replicate hr
      cases z
    · have hr : some r ∈ List.replicate ns none := hr
      have z := List.eq_of_mem_replicate hr
      cases z
  clear gp gm gt3 gt2 gt1 gt0 hd3 hd2 hd1 m1 m2 m3 hrc hlo rlo
  refine ⟨_, rfl, by decide, by decide, ?_⟩
  refine for_it (walk_range0 (n := 4)) (fun i σ H' => ∃ (x5 x6 x7 x8 x9 x10 : Option V) (ρ' : Ro) (m : Mem) (D : Ds), σ = [some (.ref l), some (.ref d), some (.ref lo), some (.ref p), some (.ref mo), x5, x6, x7, x8, x9, x10] ∧ MSt K c p mo d nb ns 100 ρ' H' m D)
    ⟨_, _, _, _, _, _, ρ3, _, _, rfl, M3⟩ (fun i σ H' _ _ => trivial) (fun i x σ Hz H4 hi ⟨x5, x6, x7, x8, x9, x10, ρ4, m4, D4, e0, M4⟩ y => ?_) (fun σ H4 ⟨x5, x6, x7, x8, x9, x10, ρ4, m4, D4, e0, M4⟩ => ?_)
  · obtain ⟨rfl, rfl⟩ := y
    subst e0
    -- the requests
    refine ⟨_, rfl, _, _, rfl, d, 8, ρ4, rfl, rfl, M4.e.d, by decide, by decide, fun H5 rr hd5 v5 hrr => ⟨_, rfl, by omega, by omega, ?_⟩⟩
    have M5 := M4.sl v5 hd5
    refine for_it (walk_range0 (n := rr)) (fun j σ H' => ∃ (x6 x7 x8 x9 x10 : Option V) (ρ' : Ro) (m : Mem) (D : Ds), σ = [some (.ref l), some (.ref d), some (.ref lo), some (.ref p), some (.ref mo), some (.int (i : Int)), x6, x7, x8, x9, x10] ∧ MSt K c p mo d nb ns (100 + 100 * j) ρ' H' m D)
      ⟨_, _, _, _, _, ρ4, m4, D4, rfl, M5⟩ (fun i σ H' _ _ => trivial) (fun j x σ Hz H6 hj ⟨x6, x7, x8, x9, x10, ρ6, m6, D6, e0, M6⟩ y => ?_) (fun σ H6 ⟨x6, x7, x8, x9, x10, ρ6, m6, D6, e0, M6⟩ => ?_)
    · obtain ⟨rfl, rfl⟩ := y
      subst e0
      obtain ⟨A6, g6⟩ := M6.o
      obtain ⟨L6, xs6⟩ := g6.slow.mw
      obtain ⟨vs, hvs, avs⟩ := xs6.g.sh
      have hvl : vs.length = nb := by rw [← avs.len]; exact M6.k.s1
      refine ⟨_, rfl, _, rfl, _, rfl, _, rfl, mo, _, rfl, g6.g "slow" _ rfl, A6.s, _, _, _, rfl, rfl, SqL.of xs6.hd, rfl, _, _, rfl, .inl (SqL.of hvs), _, _, rfl, d, nb, ρ6, rfl, by rw [hvl], M6.e.d, b1, by omega, fun ρ7 H7 t rq v7 hd7 ht hrq => ?_⟩
      have M7 := M6.sl v7 hd7
      obtain ⟨q1, q2, q3⟩ := plan_gm (rq := rq) ok M7.g M7.k.f1 n1 (by omega) hrq
      refine ⟨_, _, _, rfl, c, ρ7, p, mo, t, d, m6, D6, nb, rq, rfl, rfl, rfl, ht, M7.p, M7.o, M7.e.d, M7.e.t, ok, M7.g.wf n1, ?_, hrq, q1.kl.trans M7.g.kl.symm, ?_, fun ρ8 H8 gp8 gm8 gd8 gt8 => ⟨true, rfl, iteF ⟨_, _, _, _, _, ρ8, _, _, rfl, gp8, gm8, ⟨gd8, gt8⟩, q1, ?_⟩⟩⟩
      · rw [M7.g.kl]
        exact M7.k.rm (by omega)
      · rw [M7.g.kl]
        exact fun st hst => (q2 st hst).1
      · exact (M7.k.run q2).more (by omega)
    · subst e0
      -- the copies of what was synced last
      obtain ⟨A6, g6⟩ := M6.o
      obtain ⟨L6, xs6⟩ := g6.slow.mw
      obtain ⟨vs, hvs, avs⟩ := xs6.g.sy
      cases ints_of avs
      refine ⟨_, rfl, mo, _, rfl, g6.g "slow" _ rfl, A6.s, _, _, _, rfl, rfl, SqL.of xs6.hd, rfl, L6.a2, _, rfl, .inl (SqL.of hvs), fun ql hql => ?_⟩
      have w7 : Mv S0 ρ6 H6 _ _ := Mv.refl.new hql 5000 (.lst (D6.slow.sy.map V.int))
      have hql7 : upd H6 ql (.lst (D6.slow.sy.map V.int)) ql = some (.lst (D6.slow.sy.map V.int)) := upd_same
      have rql7 : rs ρ6 ql 5000 ql = 5000 := rs_same
      have M7 := M6.mv0 w7
      have g7 := g6.mv0 w7
      generalize upd H6 ql (.lst (D6.slow.sy.map V.int)) = H7 at *
      generalize rs ρ6 ql 5000 = ρ7 at *
      obtain ⟨L7, xf7⟩ := g7.fast.mw
      obtain ⟨ws, hws, aws⟩ := xf7.g.sy
      refine ⟨_, rfl, mo, _, rfl, g7.g "fast" _ rfl, A6.f, _, _, _, rfl, rfl, SqL.of xf7.hd, rfl, L7.a2, ws, rfl, .inl (SqL.of hws), fun qr hqr => ⟨_, _, rfl, ?_⟩⟩
      have w8 : Mv S0 ρ7 H7 _ _ := Mv.refl.new hqr 0 (.lst ws)
      have hqr8 : upd H7 qr (.lst ws) qr = some (.lst ws) := upd_same
      have rqr8 : rs ρ7 qr 0 qr = 0 := rs_same
      have M8 := M7.mv0 w8
      have hql8 := w8.at0 hql7
      have rql8 := w8.ro hql7 rql7
      have aws8 := aws.mono w8.tups
      generalize upd H7 qr (.lst ws) = H8 at *
      generalize rs ρ7 qr 0 = ρ8 at *
      clear M7 g7 xf7 hws w8 w7 xs6 hvs avs g6 M6
      -- the cut
      obtain ⟨PA8, gp8⟩ := M8.p
      obtain ⟨dn8, ho8⟩ := gp8.obj
      refine ⟨_, rfl, p, PA8.dx, _, rfl, ho8, rfl, _, rfl, c, ρ8, p, m6, D6, rfl, ⟨PA8, gp8⟩, fun ρ9 H9 gp9 v9 => ?_⟩
      obtain ⟨A9, gm9⟩ := M8.o.mv v9 spN sp0
      have e9 := M8.e.mv v9 spO
      have hql9 := v9.keeps hql8 rql8 (fun (z : SP 5000) => absurd z.2 (by decide))
      have rql9 := v9.ro hql8 rql8
      have hqr9 := v9.keeps hqr8 rqr8 sp0
      have rqr9 := v9.ro hqr8 rqr8
      have aws9 := aws8.mono v9.tups
      obtain ⟨gm10, v10⟩ := gm9.obj' m6.turn m6.begun m6.hits false
      refine ⟨_, rfl, mo, _, rfl, DPut.k (k := .inr "on") gm9.obj (show (11 : Nat) < sizeLine by decide), ?_⟩
      generalize hH : upd H9 mo _ = H10
      have gm10 : ModS c ρ9 H10 mo A9 ⟨m6.kn, m6.turn, m6.begun, m6.hits⟩ D6 false := by rw [← hH]; exact gm10
      have v10 : Mv (S1 2000) ρ9 H9 ρ9 H10 := by rw [← hH]; exact v10
      clear hH
      have v10 := v10.mono (S' := SM) (s1_sm (by decide) (by decide))
      have gp10 := gp9.mv v10 smN sm0
      have e10 := e9.mv v10 smO
      have hql10 := v10.keeps hql9 rql9 (fun (z : SM 5000) => absurd z.2 (by decide))
      have hqr10 := v10.keeps hqr9 rqr9 sm0
      have aws10 := aws9.mono v10.tups
      clear v10 gm9 e9 hql9 hqr9 aws9 gp9 v9 gp8 ho8 aws8 hqr8 rqr8 hql8 rql8
      have hrb : ∀ s r, recAt D6.fast.sy s = some r → r.b < nb := fun s r q => M8.k.b2 r (recAt_mem q)
      have hkl := M8.g.kl
      have hf2 := M8.k.f2
      obtain ⟨G16, K16⟩ := restart_gm (m := m6) M8.k
      clear M8
      obtain ⟨PA10, gq10⟩ := gp10
      obtain ⟨dn10, ho10⟩ := gq10.obj
      -- the restarts
      refine ⟨_, rfl, p, PA10.dx, _, rfl, ho10, rfl, (show (0 : Nat) ≤ sizeLine by decide), fun t1 ht1 => ⟨(show (0 : Nat) ≤ sizeLine by decide), fun t2 ht2 => ?_⟩⟩
      have w11 : Mv S0 ρ9 H10 _ _ := (Mv.refl.new ht1 0 (.tup [])).new ht2 0 (.tup [])
      have h11 : upd H10 t1 (.tup []) t1 = some (.tup []) := upd_same
      have h12 := (upd_ne (o := .tup []) (ne_of_none h11 ht2)).trans h11
      refine ⟨_, _, _, rfl, c, _, p, t1, t2, { m6 with kn := nones m6.kn.length }, D6, nb, rfl, rfl, rfl, h12, upd_same, ⟨PA10, gq10.mv0 w11⟩, by show nones m6.kn.length = nones D6.fast.sy.length; rw [hkl, hf2], hrb, fun ρ12 H12 q1 gp12 v12 rq1 hq1 => ?_⟩
      have gm12 := (ModS.mv0 gm10 w11).mv v12 spN sp0
      have e12 := (e10.mv w11 (fun i _ _ z => z)).mv v12 spO
      have hql12 := v12.keeps (w11.at0 hql10) (w11.ro hql10 rql9) (fun (z : SP 5000) => absurd z.2 (by decide))
      have rql12 := v12.ro (w11.at0 hql10) (w11.ro hql10 rql9)
      have hqr12 := v12.keeps (w11.at0 hqr10) (w11.ro hqr10 rqr9) sp0
      have rqr12 := v12.ro (w11.at0 hqr10) (w11.ro hqr10 rqr9)
      have aws12 := (aws10.mono w11.tups).mono v12.tups
      have gp12 : PairAt K c ρ12 H12 p (restartM m6 D6) (restartD D6) true := gp12
      have hq1 : H12 q1 = some (.lst (natV (dirtyBlocks nb (restartM m6 D6).kn))) := hq1
      clear gq10 ho10 gm10 e10 v12 w11 hql10 hqr10 aws10 h12 h11
      refine ⟨_, rfl, (show (0 : Nat) ≤ sizeLine by decide), fun t3 ht3 => ⟨(show (0 : Nat) ≤ sizeLine by decide), fun t4 ht4 => ?_⟩⟩
      have w13 : Mv S0 ρ12 H12 _ _ := (Mv.refl.new ht3 0 (.tup [])).new ht4 0 (.tup [])
      have h13 : upd H12 t3 (.tup []) t3 = some (.tup []) := upd_same
      have h14 := (upd_ne (o := .tup []) (ne_of_none h13 ht4)).trans h13
      refine ⟨_, _, _, rfl, c, _, mo, t3, t4, m6, D6, nb, false, rfl, rfl, rfl, h14, upd_same, ⟨A9, gm12.mv0 w13⟩, by rw [hkl, hf2], hrb, fun ρ14 H14 q2 gm14 v14 rq2 hq2 => ?_⟩
      have gp14 := (gp12.mv0 w13).mv v14 smN sm0
      have e14 := (e12.mv w13 (fun i _ _ z => z)).mv v14 smO
      have hql14 := v14.keeps (w13.at0 hql12) (w13.ro hql12 rql12) (fun (z : SM 5000) => absurd z.2 (by decide))
      have rql14 := v14.ro (w13.at0 hql12) (w13.ro hql12 rql12)
      have hqr14 := v14.keeps (w13.at0 hqr12) (w13.ro hqr12 rqr12) sm0
      have rqr14 := v14.ro (w13.at0 hqr12) (w13.ro hqr12 rqr12)
      have aws14 := (aws12.mono w13.tups).mono v14.tups
      have hq14 := v14.keeps (w13.at0 hq1) (w13.ro hq1 rq1) sm0
      clear gm12 gp12 e12 hql12 rql12 hqr12 rqr12 aws12 w13 v14 h13 h14 hq1
      have dl : (natV (dirtyBlocks nb (restartM m6 D6).kn)).length ≤ 10000 := by
        unfold natV
        rw [List.length_map, dirtyB_eq]
        have z := List.length_filter_le (hasD (restartM m6 D6).kn) (List.range nb)
        rw [List.length_range] at z
        omega
      refine ⟨_, _, rfl, ρ14, eqv_lst (n := 6) hq14 hq2 (by rw [natV_eq]; exact eqv_ints _) dl, fun ρ15 H15 v15 => ⟨true, rfl, iteF ?_⟩⟩
      refine ⟨_, rfl, _, rfl, _, _, rfl, c, ρ15, p, mo, restartM m6 D6, restartD D6, nb, rfl, rfl, gp14.mv0 v15, gm14.mv0 v15, G16.uq, G16.kb, K16.s1, by omega, Nat.le_trans K16.w1 (by decide), Nat.le_trans K16.w2 (by decide), fun ρ16 H16 v16 => ⟨true, rfl, iteF ?_⟩⟩
      have v1416 := v15.trans v16
      have M16 : MSt K c p mo d nb ns 0 ρ16 H16 (restartM m6 D6) (restartD D6) := ⟨gp14.mv0 v1416, gm14.mv0 v1416, e14.mv v1416 (fun i _ _ z => z), G16, K16⟩
      have hql16 := v1416.at0 hql14
      have rql16 := v1416.ro hql14 rql14
      have hqr16 := v1416.at0 hqr14
      have rqr16 := v1416.ro hqr14 rqr14
      have aws16 := aws14.mono v1416.tups
      clear v15 v16 v1416 gp14 gm14 e14 hql14 rql14 hqr14 rqr14 aws14 hq14 hq2
      have hwl : ws.length = ns := by rw [← aws16.len]; exact hf2
      have es : (restartD D6).slow.sh = D6.slow.sy := rfl
      have ekn : (restartM m6 D6).kn = knOf D6.fast.sy (m6.begun - 1) := rfl
      have sl2 : D6.slow.sy.length = nb := by rw [← es]; exact K16.s1
      generalize hsy : D6.slow.sy = sy at *
      generalize hfy : D6.fast.sy = rl at *
      generalize restartM m6 D6 = mR at *
      generalize restartD D6 = DR at *
      -- the best
      refine ⟨_, rfl, _, rfl, qr, rl, ws, ρ16, rfl, hqr16, aws16, by omega, fun db ρ17 H17 hdb v17 rdb hdb17 => ?_⟩
      have v17 := v17.relab hdb 6000
      have M17 := M16.mv0 v17
      have hql17 := v17.at0 hql16
      have rql17 := v17.ro hql16 rql16
      have hqr17 := v17.at0 hqr16
      have rqr17 := v17.ro hqr16 rqr16
      have aws17 := aws16.mono v17.tups
      have rdb17 : rs ρ17 db 6000 db = 6000 := rs_same
      generalize rs ρ17 db 6000 = ρ17 at *
      clear v17 M16 hql16 rql16 hqr16 rqr16 aws16 hdb rdb
      have bi := bestI rl rl.length
      rw [← bestL_to] at bi
      -- their values
      refine ⟨db, _, hdb17, trivial, fun od => ?_⟩
      have v18 : Mv (S1 6000) ρ17 H17 ρ17 (upd H17 db (.frz od (.dK (bestV (bestL rl))))) := Mv.refl.wr hdb17 (fun xs z => by cases z) (.inr rdb17) _
      refine ⟨_, rfl, db, od, rfl, .inl ⟨_, upd_same, ?_⟩⟩
      refine for_it walk_keys (fun i' σ H' => ∃ (x10 : Option V) (ρ' : Ro), σ = [some (.ref l), some (.ref d), some (.ref lo), some (.ref p), some (.ref mo), some (.int (i : Int)), x6, some (.ref ql), some (.ref qr), some (.ref db), x10] ∧ MSt K c p mo d nb ns 0 ρ' H' mR DR ∧ H' ql = some (.lst ((lastV rl sy i').map V.int)) ∧ ρ' ql = 5000 ∧ H' qr = some (.lst ws) ∧ ρ' qr = 0 ∧ All cR H' rl ws ∧ H' db = some (.frz od (.dK (bestV (bestL rl)))) ∧ ρ' db = 6000)
        ⟨_, ρ17, rfl, M17.mv v18 (fun i hi => s1N (by omega)), v18.keeps hql17 rql17 (s1N (by decide)), rql17, v18.keeps hqr17 rqr17 (s1N (by decide)), rqr17, aws17.mono v18.tups, upd_same, rdb17⟩ (fun i σ H' _ ⟨_, _, _, _, _, _, _, _, _, hz, _⟩ => hz) (fun i' x σ Hz H19 hi' ⟨x10, ρ19, e0, M19, hql19, rql19, hqr19, rqr19, aws19, hdb19, rdb19⟩ y => ?_) (fun σ H19 ⟨x10, ρ19, e0, M19, hql19, rql19, hqr19, rqr19, aws19, hdb19, rdb19⟩ => ?_)
      · obtain ⟨rfl, ky, vv, hkv, rfl⟩ := y
        subst e0
        obtain ⟨⟨b, s⟩, hbs, e1⟩ : ∃ q : Nat × Nat, (bestL rl)[i']? = some q ∧ (ky, vv) = ((Sum.inl (q.1 : Int) : Key), V.int (q.2 : Int)) := by
          unfold bestV at hkv
          rw [List.getElem?_map] at hkv
          cases q : (bestL rl)[i']? with
          | none => rw [q] at hkv; cases hkv
          | some z => rw [q] at hkv; exact ⟨z, rfl, (Option.some.inj hkv).symm⟩
        cases e1
        have hm := List.mem_of_getElem? hbs
        obtain ⟨r, h1, h2, h3, h4⟩ := bi.mem _ hm
        have h1 : recAt rl s = some r := h1
        have h2 : r.b = b := h2
        have hbn : b < nb := by rw [← h2]; exact hrb s r h1
        obtain ⟨v, hvv, u, rfl, hu⟩ := aws19.get (recAt_some h1)
        have dg : DGet H19 db (.int (b : Int)) (some (.int (s : Int))) := DGet.up (H' := H19) (k := .inl (b : Int)) (.inr ⟨od, hdb19⟩) rfl (by rw [bestV_val, lookup_of bi.nd hm]; rfl)
        refine ⟨_, rfl, _, rfl, _, rfl, db, _, rfl, dg, qr, ws, _, _, rfl, rfl, SqL.of hqr19, atI_nat hvv, u, _, _, _, rfl, rfl, SqT.of hu, rfl, _, rfl, _, rfl, ql, _, _, b, rfl, rfl, hql19, ixn (by rw [List.length_map, lastV_len, sl2]; exact hbn), ?_⟩
        have e1 : ((lastV rl sy i').map V.int).set b (.int r.v) = (lastV rl sy (i' + 1)).map V.int := by
          rw [lastV_succ hbs, ← List.map_set]
          show _ = List.map V.int ((lastV rl sy i').set b ((recAt rl s).elim 0 (·.v)))
          rw [h1]
          rfl
        rw [e1]
        have v20 : Mv (S1 5000) ρ19 H19 ρ19 (upd H19 ql (.lst ((lastV rl sy (i' + 1)).map V.int))) := Mv.refl.wr hql19 (fun xs z => by cases z) (.inr rql19) _
        exact ⟨_, ρ19, rfl, M19.mv v20 (fun i hi => s1N (by omega)), upd_same, rql19, v20.keeps hqr19 rqr19 (s1N (by decide)), rqr19, aws19.mono v20.tups, v20.keeps hdb19 rdb19 (s1N (by decide)), rdb19⟩
      · subst e0
        have hbl : (bestV (bestL rl)).length = (bestL rl).length := by
          unfold bestV
          rw [List.length_map]
        rw [hbl, lastV_vals rl (m6.begun - 1), ← ekn, ← es] at hql19
        refine ⟨hdb19, ?_⟩
        have v20 : Mv (S1 6000) ρ19 H19 ρ19 (upd H19 db (.dK (bestV (bestL rl)))) := Mv.refl.wr hdb19 (fun xs z => by cases z) (.inr rdb19) _
        have M20 := M19.mv v20 (fun i hi => s1N (by omega))
        have hql20 := v20.keeps hql19 rql19 (s1N (by decide))
        generalize upd H19 db (.dK (bestV (bestL rl))) = H20 at *
        clear v20 M19 hql19 hqr19 aws19 hdb19 v18 M17 hql17 hqr17 aws17 hdb17
        -- the values
        obtain ⟨PA20, gp20⟩ := M20.p
        obtain ⟨dn20, ho20⟩ := gp20.obj
        refine ⟨_, rfl, p, PA20.dx, _, rfl, ho20, _, rfl, c, ρ19, p, mR, DR, nb, rfl, ⟨PA20, gp20⟩, M20.g.uq, M20.g.kb, M20.k.s1, fun ρ21 H21 qv v21 rv hqv => ?_⟩
        have M21 := M20.mv0 v21
        have hql21 := v21.at0 hql20
        have rql21 := v21.ro hql20 rql19
        refine ⟨_, rfl, ne_self hqv hql21 ⟨_, rfl, iteF ?_⟩⟩
        have vl : (vals mR.kn DR.slow.sh).length = nb := by rw [vals_len]; exact M21.k.s1
        refine ⟨_, rfl, _, rfl, _, _, rfl, .inl (SqL.of hql21), _, _, rfl, d, nb, ρ21, rfl, by rw [List.length_map, vl], M21.e.d, b1, by omega, fun H22 r hd22 v22 hr22 => ?_⟩
        have M22 := M21.sl v22 hd22
        have hql22 := v22.keeps hql21 rql21 (s1N (by decide))
        obtain ⟨PA22, gp22⟩ := M22.p
        obtain ⟨dn22, ho22⟩ := gp22.obj
        refine ⟨_, rfl, p, PA22.dx, _, rfl, ho22, rfl, _, rfl, _, _, rfl, c, ρ21, p, mR, DR, r, nb, rfl, rfl, ⟨PA22, gp22⟩, ok, M22.g.wf n1, hr22, by rw [M22.g.kl]; exact M22.k.rm (by decide), fun ρ23 H23 gp23 v23 => ?_⟩
        have hql23 := v23.keeps hql22 rql21 (fun (z : SP 5000) => absurd z.2 (by decide))
        have hv := read_val (c := c) (D := DR) M22.g.uq M22.k.s1 hr22
        have hv2 : ((vals mR.kn DR.slow.sh).map V.int)[r]? = some (.int (read c mR r (svAt DR r)).1) := by
          rw [List.getElem?_map, hv]
          rfl
        refine ⟨_, rfl, _, rfl, ql, _, _, _, rfl, rfl, SqL.of hql23, atI_nat hv2, rfl, _, rfl, ite_ff (by simp) ?_⟩
        have gm23 := M22.o.mv v23 spN sp0
        have e23 := M22.e.mv v23 spO
        obtain ⟨q1, q2, q3⟩ := read_gm (n := r) (sv := svAt DR r) ok M22.g M22.k.f1 n1 hr22
        refine ⟨_, rfl, _, rfl, _, rfl, _, _, rfl, c, ρ23, mo, mR, DR, true, r, rfl, rfl, gm23, ok, M22.g.uq, by rw [M22.g.kl]; exact n1, by rw [M22.g.kl]; exact M22.k.f1, by rw [M22.k.s1]; exact hr22, fun ρ24 H24 t q ys gm24 v24 ht hq rq ha hl' => ?_⟩
        refine ⟨t, _, _, _, rfl, rfl, SqT.of ht, rfl, _, _, rfl, c, ρ24, mo, q, (read c mR r (svAt DR r)).2.1, DR, true, nb, (read c mR r (svAt DR r)).2.2, ys, rfl, rfl, gm24, hq, rq, ha, hl', by rw [q1.kl]; exact M22.k.rm (by decide), fun st hst => by rw [q1.kl]; exact (q2 st hst).1, fun ρ25 H25 gm25 v25 => ?_⟩
        have v2325 := v24.trans v25
        exact ⟨_, _, _, _, _, _, ρ25, _, _, rfl, gp23.mv v2325 smN sm0, gm25, e23.mv v2325 smO, q1, (M22.k.run q2).more (by omega)⟩
  · subst e0
    refine ⟨_, rfl, _, rfl, _, _, rfl, c, ρ4, p, mo, m4, D4, nb, rfl, rfl, M4.p, M4.o, M4.g.uq, M4.g.kb, M4.k.s1, by omega, Nat.le_trans M4.k.w1 (by decide), Nat.le_trans M4.k.w2 (by decide), fun ρ5 H5 _ => k _⟩
end
end Kb
set_option Elab.async false
set_option linter.all false
set_option maxRecDepth 100000
set_option maxHeartbeats 0
namespace Kb
open PySem PySem.Spec PyProof.Rows L2
theorem law_at {w : World} {mg : Str → Option Value} {fa : Addr} {h : Heap} {K : PySem.W.Frag} (KX : K.In h) (c : Says h K) (G : h.Ns mainGlobals mg) (hmg : mg ("law" : Str) = some (.ref fa)) :
    LamX.LawAtS PySem.Challenge.rw_keepbefore_k33_whole_nothing_kept_is_not w K CX0 13 63 "_law_script" mg fa h := by
  have T : Txt K mg := txt_of KX G c
  have e := hmg.symm.trans T.ga_law
  cases e
  have b := FunD.bindsA (ps := ["_law_script"]) T.F_L_main fun _ _ _ _ _ _ us hl => match us, hl with | [_], _ => rfl
  have mt : (("_law_same", none) : He.Defn) ∈ tf := List.mem_singleton.mpr rfl
  refine ⟨fdOf K (He.ga K "law"), [He.cT K ("_law_same", none)], sp_main K, fun p hp => ?_, fun p hp => ?_, fun p hp => ?_, fun s u => b s [u] rfl, fun H a ns hl _ hT hS => ⟨.ref a, rfl, a, ns, rfl, hS, hl, hT _ (List.mem_singleton.mpr rfl), fun _ => rfl⟩, fun base _ _ TB => f_L_main T (TB _ (List.mem_singleton.mpr rfl))⟩
  · rw [List.mem_singleton.mp hp]
    exact c.empty _ mt
  · rw [List.mem_singleton.mp hp]
    exact c.out _ mt
  · rw [List.mem_singleton.mp hp]
    exact PySem.W.codeHd_of_K KX (c.hd _ mt)
end Kb
open PySem PySem.W PySem.Calls PyProof.Rows
theorem PySem.Challenge.cw_keepbefore_k33_whole_nothing_kept_is_not_holds : PySem.Challenge.rw_keepbefore_k33_whole_nothing_kept_is_not.Holds := by
  w_on; o_law
  refine HandSHeadRun.head_any (r := OpenLaw.row PySem.Challenge.rw_keepbefore_k33_whole_nothing_kept_is_not) (q := view (OpenLaw.row PySem.Challenge.rw_keepbefore_k33_whole_nothing_kept_is_not).prog [95]) (H := Kb.hkK) (ob := Kb.ob) (M := 60000) (loose := Kb.looseN) (d := HandSHeadRun.topDef (OpenLaw.row PySem.Challenge.rw_keepbefore_k33_whole_nothing_kept_is_not).prog 95) (kwd := []) Kb.ob_eq
    (by kernel_rfl) (fun s => by kernel_rfl) Kb.run_top (by kernel_rfl) (by kernel_rfl) (by kernel_rfl) (by rfl) (by first | assumption | decide +kernel) (by decide +kernel) ⟨rfl, rfl, rfl, rfl, rfl, by decide +kernel⟩ ?hw ?hc
  case hw => w_witness2
  case hc =>
    refine LamX.walk_ofTsE (l := PySem.Challenge.rw_keepbefore_k33_whole_nothing_kept_is_not) (n := 63) (k := 13) (x := "_law_script") (CX := fun _ => L2.CX0) rfl (by decide) (by kernel_rfl) ⟨rfl, by decide, by decide⟩ ?F (fun _ _ _ _ _ z => z)
    intro w mg fa h Y G hmg0
    obtain ⟨K, KX, c⟩ := Y
    have hmg : mg ("law" : PySem.Str) = some (.ref fa) := by
      have e : (HandSHeadRun.topDef (OpenLaw.row PySem.Challenge.rw_keepbefore_k33_whole_nothing_kept_is_not).prog 95).name = ("law" : PySem.Str) := by kernel_rfl
      rw [← e]
      exact hmg0
    exact ⟨K, KX, Kb.law_at KX c G hmg⟩
