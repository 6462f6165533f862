import PyProof.Rows.All
import Wide.All
import OpenK.AllK
import Wide.FinOn
import HandS.ForMost
import KE.KStateDown
import HandS.WordsExc
import HandS.Defaults
import HandS.Head0
import HandS.Head1
import HandS.Head2
import HandS.HeadEnd
import HandS.HeadHook1
import HandS.HeadHook2
import HandS.Walk
import HandS.DictComp
import HandS.TryOnly
import HandS.IsInst
import HandS.Style
import HandS.Star
import KE.SortKeyHeap
import KE.KDictList
import PyProof.TupleOfSeq
import HandS.SortKw
import HandS.Set
import HandS.SetFor
import HandS.SetTxt0
import KE.KDictKeyed
import HandS.TupSets
import KE.SortData
import HandS.ExcValue
import KE.KDictCopyH
import KE.KDictSum
import KE.DataCmp
import HandS.Deep
import HandS.TupAny
import KE.GoesMore
import HandS.Iter
import HandS.Zip
import PyProof.DictFindH
import PyProof.Rows.TupDisplay
import KE.KSortKey
import HandS.Conv
import KE.KDictPairs
import HandS.Dict
import HandS.Comp
import PyProof.SumAny
import PyProof.WalksMore
import HandS.WideBits
import HandS.Flow
import HandS.HeadHook4
import PySem.Challenge.RW_upbyany_k45_whole_fewest_lists
/-! text UpT -/
set_option Elab.async false
set_option linter.all false
set_option maxRecDepth 100000
namespace Up
open PySem PySem.Spec PyProof.Rows L2
def topS (i : Nat) : Stmt := PySem.Challenge.pw_upbyany_k45_whole_fewest_lists.main.body.getD i (.Pass ⟨0, 0, 0, 0⟩)
abbrev s_set_of : Stmt := topS 3
abbrev n_set_of : List Str := ["some"]
abbrev p_set_of : List Str := ["some"]
theorem c_set_of : FnScope n_set_of p_set_of (defScope s_set_of) := ⟨rfl, rfl, rfl, by decide +kernel, rfl, by decide +kernel, by decide +kernel⟩
abbrev s_tupled : Stmt := topS 4
abbrev n_tupled : List Str := ["value", "part"]
abbrev p_tupled : List Str := ["value"]
theorem c_tupled : FnScope n_tupled p_tupled (defScope s_tupled) := ⟨rfl, rfl, rfl, by decide +kernel, rfl, by decide +kernel, by decide +kernel⟩
abbrev s_units : Stmt := topS 6
abbrev n_units : List Str := ["book", "unit", "needs"]
abbrev p_units : List Str := ["book"]
theorem c_units : FnScope n_units p_units (defScope s_units) := ⟨rfl, rfl, rfl, by decide +kernel, rfl, by decide +kernel, by decide +kernel⟩
abbrev s_check_units : Stmt := topS 7
abbrev n_check_units : List Str := ["book", "some", "known", "unit"]
abbrev p_check_units : List Str := ["book", "some"]
theorem c_check_units : FnScope n_check_units p_check_units (defScope s_check_units) := ⟨rfl, rfl, rfl, by decide +kernel, rfl, by decide +kernel, by decide +kernel⟩
abbrev s_table_of : Stmt := topS 8
abbrev n_table_of : List Str := ["book", "unit", "needs"]
abbrev p_table_of : List Str := ["book"]
theorem c_table_of : FnScope n_table_of p_table_of (defScope s_table_of) := ⟨rfl, rfl, rfl, by decide +kernel, rfl, by decide +kernel, by decide +kernel⟩
abbrev s_lets : Stmt := topS 9
abbrev n_lets : List Str := ["table", "up", "unit", "need", "one"]
abbrev p_lets : List Str := ["table", "up", "unit"]
theorem c_lets : FnScope n_lets p_lets (defScope s_lets) := ⟨rfl, rfl, rfl, by decide +kernel, rfl, by decide +kernel, by decide +kernel⟩
abbrev s_row_within : Stmt := topS 10
abbrev n_row_within : List Str := ["book", "some", "table", "found", "grown", "later", "unit"]
abbrev p_row_within : List Str := ["book", "some"]
theorem c_row_within : FnScope n_row_within p_row_within (defScope s_row_within) := ⟨rfl, rfl, rfl, by decide +kernel, rfl, by decide +kernel, by decide +kernel⟩
abbrev s_greatest_within : Stmt := topS 11
abbrev n_greatest_within : List Str := ["book", "some"]
abbrev p_greatest_within : List Str := ["book", "some"]
theorem c_greatest_within : FnScope n_greatest_within p_greatest_within (defScope s_greatest_within) := ⟨rfl, rfl, rfl, by decide +kernel, rfl, by decide +kernel, by decide +kernel⟩
abbrev s_whole : Stmt := topS 12
abbrev n_whole : List Str := ["book"]
abbrev p_whole : List Str := ["book"]
theorem c_whole : FnScope n_whole p_whole (defScope s_whole) := ⟨rfl, rfl, rfl, by decide +kernel, rfl, by decide +kernel, by decide +kernel⟩
abbrev s_standings_of : Stmt := topS 14
abbrev n_standings_of : List Str := ["book", "table", "found", "fresh", "here", "unit", "there"]
abbrev p_standings_of : List Str := ["book"]
theorem c_standings_of : FnScope n_standings_of p_standings_of (defScope s_standings_of) := ⟨rfl, rfl, rfl, by decide +kernel, rfl, by decide +kernel, by decide +kernel⟩
abbrev s_without : Stmt := topS 15
abbrev n_without : List Str := ["some", "unit", "one"]
abbrev p_without : List Str := ["some", "unit"]
theorem c_without : FnScope n_without p_without (defScope s_without) := ⟨rfl, rfl, rfl, by decide +kernel, rfl, by decide +kernel, by decide +kernel⟩
abbrev s_ends_in : Stmt := topS 16
abbrev n_ends_in : List Str := ["known", "some", "unit"]
abbrev p_ends_in : List Str := ["known", "some"]
theorem c_ends_in : FnScope n_ends_in p_ends_in (defScope s_ends_in) := ⟨rfl, rfl, rfl, by decide +kernel, rfl, by decide +kernel, by decide +kernel⟩
abbrev s_ends_of_paths : Stmt := topS 17
abbrev n_ends_of_paths : List Str := ["book", "known", "found", "some", "ends"]
abbrev p_ends_of_paths : List Str := ["book"]
theorem c_ends_of_paths : FnScope n_ends_of_paths p_ends_of_paths (defScope s_ends_of_paths) := ⟨rfl, rfl, rfl, by decide +kernel, rfl, by decide +kernel, by decide +kernel⟩
abbrev s_all_paths : Stmt := topS 18
abbrev n_all_paths : List Str := ["book"]
abbrev p_all_paths : List Str := ["book"]
theorem c_all_paths : FnScope n_all_paths p_all_paths (defScope s_all_paths) := ⟨rfl, rfl, rfl, by decide +kernel, rfl, by decide +kernel, by decide +kernel⟩
abbrev s_is_within : Stmt := topS 19
abbrev n_is_within : List Str := ["one", "other", "unit"]
abbrev p_is_within : List Str := ["one", "other"]
theorem c_is_within : FnScope n_is_within p_is_within (defScope s_is_within) := ⟨rfl, rfl, rfl, by decide +kernel, rfl, by decide +kernel, by decide +kernel⟩
abbrev s_grown : Stmt := topS 21
abbrev n_grown : List Str := ["book", "row", "some", "size", "own", "table", "going", "free", "name", "need"]
abbrev p_grown : List Str := ["book", "row", "some", "size"]
theorem c_grown : FnScope n_grown p_grown (defScope s_grown) := ⟨rfl, rfl, rfl, by decide +kernel, rfl, by decide +kernel, by decide +kernel⟩
abbrev s_behind_of : Stmt := topS 23
abbrev n_behind_of : List Str := ["own", "some", "place", "far"]
abbrev p_behind_of : List Str := ["own"]
theorem c_behind_of : FnScope n_behind_of p_behind_of (defScope s_behind_of) := ⟨rfl, rfl, rfl, by decide +kernel, rfl, by decide +kernel, by decide +kernel⟩
abbrev s_put_behind : Stmt := topS 24
abbrev n_put_behind : List Str := ["after", "place", "ahead", "tried", "other"]
abbrev p_put_behind : List Str := ["after", "place", "ahead", "tried"]
theorem c_put_behind : FnScope n_put_behind p_put_behind (defScope s_put_behind) := ⟨rfl, rfl, rfl, by decide +kernel, rfl, by decide +kernel, by decide +kernel⟩
abbrev s_matched : Stmt := topS 25
abbrev n_matched : List Str := ["after", "ahead", "place"]
abbrev p_matched : List Str := ["after"]
theorem c_matched : FnScope n_matched p_matched (defScope s_matched) := ⟨rfl, rfl, rfl, by decide +kernel, rfl, by decide +kernel, by decide +kernel⟩
abbrev s_path_chains : Stmt := topS 26
abbrev n_path_chains : List Str := ["book", "own", "ahead", "found", "later", "place", "path", "row", "spot"]
abbrev p_path_chains : List Str := ["book"]
theorem c_path_chains : FnScope n_path_chains p_path_chains (defScope s_path_chains) := ⟨rfl, rfl, rfl, by decide +kernel, rfl, by decide +kernel, by decide +kernel⟩
abbrev s_width : Stmt := topS 27
abbrev n_width : List Str := ["book"]
abbrev p_width : List Str := ["book"]
theorem c_width : FnScope n_width p_width (defScope s_width) := ⟨rfl, rfl, rfl, by decide +kernel, rfl, by decide +kernel, by decide +kernel⟩
abbrev s_list_through : Stmt := topS 28
abbrev n_list_through : List Str := ["book", "some", "row", "every", "path"]
abbrev p_list_through : List Str := ["book", "some"]
theorem c_list_through : FnScope n_list_through p_list_through (defScope s_list_through) := ⟨rfl, rfl, rfl, by decide +kernel, rfl, by decide +kernel, by decide +kernel⟩
abbrev s_fewest_lists : Stmt := topS 29
abbrev n_fewest_lists : List Str := ["book", "chain"]
abbrev p_fewest_lists : List Str := ["book"]
theorem c_fewest_lists : FnScope n_fewest_lists p_fewest_lists (defScope s_fewest_lists) := ⟨rfl, rfl, rfl, by decide +kernel, rfl, by decide +kernel, by decide +kernel⟩
abbrev s_Lbox : Stmt := topS 31
abbrev n_Lbox : List Str := ["_law_script", "_law_k", "_law_cell"]
abbrev p_Lbox : List Str := ["_law_script", "_law_k"]
theorem c_Lbox : FnScope n_Lbox p_Lbox (defScope s_Lbox) := ⟨rfl, rfl, rfl, by decide +kernel, rfl, by decide +kernel, by decide +kernel⟩
abbrev s_Lcells : Stmt := topS 32
abbrev n_Lcells : List Str := ["_law_script", "_law_top", "_law_cells_so", "_law_k", "_law_cell", "_law_at_so"]
abbrev p_Lcells : List Str := ["_law_script", "_law_top"]
theorem c_Lcells : FnScope n_Lcells p_Lcells (defScope s_Lcells) := ⟨rfl, rfl, rfl, by decide +kernel, rfl, by decide +kernel, by decide +kernel⟩
abbrev s_Lmixed : Stmt := topS 33
abbrev n_Lmixed : List Str := ["_law_urn", "_law_pool", "_law_left", "_law_found", "_law_turn"]
abbrev p_Lmixed : List Str := ["_law_urn", "_law_pool"]
theorem c_Lmixed : FnScope n_Lmixed p_Lmixed (defScope s_Lmixed) := ⟨rfl, rfl, rfl, by decide +kernel, rfl, by decide +kernel, by decide +kernel⟩
abbrev s_Ltake : Stmt := topS 34
abbrev n_Ltake : List Str := ["_law_urn", "_law_low_so", "_law_drawn", "_law_once", "_law_far", "_law_both_so"]
abbrev p_Ltake : List Str := ["_law_urn", "_law_low_so"]
theorem c_Ltake : FnScope n_Ltake p_Ltake (defScope s_Ltake) := ⟨rfl, rfl, rfl, by decide +kernel, rfl, by decide +kernel, by decide +kernel⟩
abbrev s_Lsame : Stmt := topS 35
abbrev n_Lsame : List Str := ["_law_got", "_law_goal", "_law_mine_so", "_law_own"]
abbrev p_Lsame : List Str := ["_law_got", "_law_goal"]
theorem c_Lsame : FnScope n_Lsame p_Lsame (defScope s_Lsame) := ⟨rfl, rfl, rfl, by decide +kernel, rfl, by decide +kernel, by decide +kernel⟩
abbrev s_Llists : Stmt := topS 36
abbrev n_Llists : List Str := ["_law_matter", "_law_bit"]
abbrev p_Llists : List Str := ["_law_matter"]
theorem c_Llists : FnScope n_Llists p_Llists (defScope s_Llists) := ⟨rfl, rfl, rfl, by decide +kernel, rfl, by decide +kernel, by decide +kernel⟩
abbrev s_Lpick : Stmt := topS 37
abbrev n_Lpick : List Str := ["_law_urn", "_law_pool", "_law_size_so", "_law_found", "_law_k", "_law_own"]
abbrev p_Lpick : List Str := ["_law_urn", "_law_pool", "_law_size_so"]
theorem c_Lpick : FnScope n_Lpick p_Lpick (defScope s_Lpick) := ⟨rfl, rfl, rfl, by decide +kernel, rfl, by decide +kernel, by decide +kernel⟩
abbrev s_Llines : Stmt := topS 38
abbrev n_Llines : List Str := ["_law_names_so", "_law_found", "_law_turn", "_law_later", "_law_own", "_law_name"]
abbrev p_Llines : List Str := ["_law_names_so"]
theorem c_Llines : FnScope n_Llines p_Llines (defScope s_Llines) := ⟨rfl, rfl, rfl, by decide +kernel, rfl, by decide +kernel, by decide +kernel⟩
abbrev s_Lcome : Stmt := topS 39
abbrev n_Lcome : List Str := ["_law_tome", "_law_up", "_law_own", "_law_wants", "_law_far", "_law_k"]
abbrev p_Lcome : List Str := ["_law_tome", "_law_up"]
theorem c_Lcome : FnScope n_Lcome p_Lcome (defScope s_Lcome) := ⟨rfl, rfl, rfl, by decide +kernel, rfl, by decide +kernel, by decide +kernel⟩
abbrev s_Lstands : Stmt := topS 40
abbrev n_Lstands : List Str := ["_law_tome", "_law_found", "_law_fresh", "_law_here", "_law_own", "_law_more"]
abbrev p_Lstands : List Str := ["_law_tome"]
theorem c_Lstands : FnScope n_Lstands p_Lstands (defScope s_Lstands) := ⟨rfl, rfl, rfl, by decide +kernel, rfl, by decide +kernel, by decide +kernel⟩
abbrev s_Lorders : Stmt := topS 41
abbrev n_Lorders : List Str := ["_law_tome", "_law_found", "_law_ready", "_law_here", "_law_free", "_law_own"]
abbrev p_Lorders : List Str := ["_law_tome"]
theorem c_Lorders : FnScope n_Lorders p_Lorders (defScope s_Lorders) := ⟨rfl, rfl, rfl, by decide +kernel, rfl, by decide +kernel, by decide +kernel⟩
abbrev s_Linside : Stmt := topS 42
abbrev n_Linside : List Str := ["_law_mine", "_law_its", "_law_own"]
abbrev p_Linside : List Str := ["_law_mine", "_law_its"]
theorem c_Linside : FnScope n_Linside p_Linside (defScope s_Linside) := ⟨rfl, rfl, rfl, by decide +kernel, rfl, by decide +kernel, by decide +kernel⟩
abbrev s_Lbook : Stmt := topS 43
abbrev n_Lbook : List Str := ["_law_urn", "_law_most", "_law_names_so", "_law_found", "_law_own", "_law_wants", "_law_turn"]
abbrev p_Lbook : List Str := ["_law_urn", "_law_most"]
theorem c_Lbook : FnScope n_Lbook p_Lbook (defScope s_Lbook) := ⟨rfl, rfl, rfl, by decide +kernel, rfl, by decide +kernel, by decide +kernel⟩
abbrev s_Llower : Stmt := topS 44
abbrev n_Llower : List Str := ["_law_sets_so", "_law_lot", "_law_far"]
abbrev p_Llower : List Str := ["_law_sets_so"]
theorem c_Llower : FnScope n_Llower p_Llower (defScope s_Llower) := ⟨rfl, rfl, rfl, by decide +kernel, rfl, by decide +kernel, by decide +kernel⟩
abbrev s_Lwords : Stmt := topS 45
abbrev n_Lwords : List Str := ["_law_text", "_law_found", "_law_own", "_law_bits_so", "_law_wants", "_law_far"]
abbrev p_Lwords : List Str := ["_law_text"]
theorem c_Lwords : FnScope n_Lwords p_Lwords (defScope s_Lwords) := ⟨rfl, rfl, rfl, by decide +kernel, rfl, by decide +kernel, by decide +kernel⟩
abbrev s_Lread : Stmt := topS 46
abbrev n_Lread : List Str := ["_law_rolls", "_law_found", "_law_line_so", "_law_heads_so", "_law_k", "_law_lot", "_law_own"]
abbrev p_Lread : List Str := ["_law_rolls"]
theorem c_Lread : FnScope n_Lread p_Lread (defScope s_Lread) := ⟨rfl, rfl, rfl, by decide +kernel, rfl, by decide +kernel, by decide +kernel⟩
abbrev s_Lserves : Stmt := topS 47
abbrev n_Lserves : List Str := ["_law_tome", "_law_rolls", "_law_names_so", "_law_line_so", "_law_own", "_law_wants"]
abbrev p_Lserves : List Str := ["_law_tome", "_law_rolls"]
theorem c_Lserves : FnScope n_Lserves p_Lserves (defScope s_Lserves) := ⟨rfl, rfl, rfl, by decide +kernel, rfl, by decide +kernel, by decide +kernel⟩
abbrev s_Lby_hand_right : Stmt := topS 48
abbrev n_Lby_hand_right : List Str := ["_law_rows_so", "_law_due", "_law_k", "_law_own", "_law_told", "_law_got", "_law_wide", "_law_line_so"]
abbrev p_Lby_hand_right : List Str := []
theorem c_Lby_hand_right : FnScope n_Lby_hand_right p_Lby_hand_right (defScope s_Lby_hand_right) := ⟨rfl, rfl, rfl, by decide +kernel, rfl, by decide +kernel, by decide +kernel⟩
abbrev s_Lpairs_right : Stmt := topS 49
abbrev n_Lpairs_right : List Str := ["_law_turns_so", "_law_lone", "_law_mate", "_law_read_so", "_law_found", "_law_own", "_law_least_so", "_law_told", "_law_lot", "_law_far"]
abbrev p_Lpairs_right : List Str := []
theorem c_Lpairs_right : FnScope n_Lpairs_right p_Lpairs_right (defScope s_Lpairs_right) := ⟨rfl, rfl, rfl, by decide +kernel, rfl, by decide +kernel, by decide +kernel⟩
abbrev s_Lright : Stmt := topS 50
abbrev n_Lright : List Str := ["_law_urn", "_law_turn", "_law_tome", "_law_told", "_law_turns_so", "_law_lots", "_law_stands_so", "_law_fewer_so", "_law_own", "_law_far", "_law_lot"]
abbrev p_Lright : List Str := ["_law_urn"]
theorem c_Lright : FnScope n_Lright p_Lright (defScope s_Lright) := ⟨rfl, rfl, rfl, by decide +kernel, rfl, by decide +kernel, by decide +kernel⟩
abbrev s_law : Stmt := topS 51
abbrev n_law : List Str := ["_law_script", "_law_cells_so", "_law_k"]
abbrev p_law : List Str := ["_law_script"]
theorem c_law : FnScope n_law p_law (defScope s_law) := ⟨rfl, rfl, rfl, by decide +kernel, rfl, by decide +kernel, by decide +kernel⟩
end Up

/-! text UpHead -/
set_option Elab.async false
set_option linter.all false
set_option maxRecDepth 100000
set_option maxHeartbeats 0
namespace Up
open PySem PySem.Spec PyProof.Rows L2

def d_set_of : He.DefD := ⟨("set_of", none), "set_of", "set_of", defArgs s_set_of, defBody s_set_of, defScope s_set_of, [], []⟩
def d_tupled : He.DefD := ⟨("tupled", none), "tupled", "tupled", defArgs s_tupled, defBody s_tupled, defScope s_tupled, [], []⟩
def d_units : He.DefD := ⟨("units", none), "units", "units", defArgs s_units, defBody s_units, defScope s_units, [], []⟩
def d_check_units : He.DefD := ⟨("check_units", none), "check_units", "check_units", defArgs s_check_units, defBody s_check_units, defScope s_check_units, [], []⟩
def d_table_of : He.DefD := ⟨("table_of", none), "table_of", "table_of", defArgs s_table_of, defBody s_table_of, defScope s_table_of, [], []⟩
def d_lets : He.DefD := ⟨("lets", none), "lets", "lets", defArgs s_lets, defBody s_lets, defScope s_lets, [], []⟩
def d_row_within : He.DefD := ⟨("row_within", none), "row_within", "row_within", defArgs s_row_within, defBody s_row_within, defScope s_row_within, [], []⟩
def d_greatest_within : He.DefD := ⟨("greatest_within", none), "greatest_within", "greatest_within", defArgs s_greatest_within, defBody s_greatest_within, defScope s_greatest_within, [], []⟩
def d_whole : He.DefD := ⟨("whole", none), "whole", "whole", defArgs s_whole, defBody s_whole, defScope s_whole, [], []⟩
def d_standings_of : He.DefD := ⟨("standings_of", none), "standings_of", "standings_of", defArgs s_standings_of, defBody s_standings_of, defScope s_standings_of, [], []⟩
def d_without : He.DefD := ⟨("without", none), "without", "without", defArgs s_without, defBody s_without, defScope s_without, [], []⟩
def d_ends_in : He.DefD := ⟨("ends_in", none), "ends_in", "ends_in", defArgs s_ends_in, defBody s_ends_in, defScope s_ends_in, [], []⟩
def d_ends_of_paths : He.DefD := ⟨("ends_of_paths", none), "ends_of_paths", "ends_of_paths", defArgs s_ends_of_paths, defBody s_ends_of_paths, defScope s_ends_of_paths, [], []⟩
def d_all_paths : He.DefD := ⟨("all_paths", none), "all_paths", "all_paths", defArgs s_all_paths, defBody s_all_paths, defScope s_all_paths, [], []⟩
def d_is_within : He.DefD := ⟨("is_within", none), "is_within", "is_within", defArgs s_is_within, defBody s_is_within, defScope s_is_within, [], []⟩
def d_grown : He.DefD := ⟨("grown", none), "grown", "grown", defArgs s_grown, defBody s_grown, defScope s_grown, [], []⟩
def d_behind_of : He.DefD := ⟨("behind_of", none), "behind_of", "behind_of", defArgs s_behind_of, defBody s_behind_of, defScope s_behind_of, [], []⟩
def d_put_behind : He.DefD := ⟨("put_behind", none), "put_behind", "put_behind", defArgs s_put_behind, defBody s_put_behind, defScope s_put_behind, [], []⟩
def d_matched : He.DefD := ⟨("matched", none), "matched", "matched", defArgs s_matched, defBody s_matched, defScope s_matched, [], []⟩
def d_path_chains : He.DefD := ⟨("path_chains", none), "path_chains", "path_chains", defArgs s_path_chains, defBody s_path_chains, defScope s_path_chains, [], []⟩
def d_width : He.DefD := ⟨("width", none), "width", "width", defArgs s_width, defBody s_width, defScope s_width, [], []⟩
def d_list_through : He.DefD := ⟨("list_through", none), "list_through", "list_through", defArgs s_list_through, defBody s_list_through, defScope s_list_through, [], []⟩
def d_fewest_lists : He.DefD := ⟨("fewest_lists", none), "fewest_lists", "fewest_lists", defArgs s_fewest_lists, defBody s_fewest_lists, defScope s_fewest_lists, [], []⟩
def d_Lbox : He.DefD := ⟨("_law_box", none), "_law_box", "_law_box", defArgs s_Lbox, defBody s_Lbox, defScope s_Lbox, [], []⟩
def d_Lcells : He.DefD := ⟨("_law_cells", none), "_law_cells", "_law_cells", defArgs s_Lcells, defBody s_Lcells, defScope s_Lcells, [], []⟩
def d_Lmixed : He.DefD := ⟨("_law_mixed", none), "_law_mixed", "_law_mixed", defArgs s_Lmixed, defBody s_Lmixed, defScope s_Lmixed, [], []⟩
def d_Ltake : He.DefD := ⟨("_law_take", none), "_law_take", "_law_take", defArgs s_Ltake, defBody s_Ltake, defScope s_Ltake, [], []⟩
def d_Lsame : He.DefD := ⟨("_law_same", none), "_law_same", "_law_same", defArgs s_Lsame, defBody s_Lsame, defScope s_Lsame, [], []⟩
def d_Llists : He.DefD := ⟨("_law_lists", none), "_law_lists", "_law_lists", defArgs s_Llists, defBody s_Llists, defScope s_Llists, [], []⟩
def d_Lpick : He.DefD := ⟨("_law_pick", none), "_law_pick", "_law_pick", defArgs s_Lpick, defBody s_Lpick, defScope s_Lpick, [], []⟩
def d_Llines : He.DefD := ⟨("_law_lines", none), "_law_lines", "_law_lines", defArgs s_Llines, defBody s_Llines, defScope s_Llines, [], []⟩
def d_Lcome : He.DefD := ⟨("_law_come", none), "_law_come", "_law_come", defArgs s_Lcome, defBody s_Lcome, defScope s_Lcome, [], []⟩
def d_Lstands : He.DefD := ⟨("_law_stands", none), "_law_stands", "_law_stands", defArgs s_Lstands, defBody s_Lstands, defScope s_Lstands, [], []⟩
def d_Lorders : He.DefD := ⟨("_law_orders", none), "_law_orders", "_law_orders", defArgs s_Lorders, defBody s_Lorders, defScope s_Lorders, [], []⟩
def d_Linside : He.DefD := ⟨("_law_inside", none), "_law_inside", "_law_inside", defArgs s_Linside, defBody s_Linside, defScope s_Linside, [], []⟩
def d_Lbook : He.DefD := ⟨("_law_book", none), "_law_book", "_law_book", defArgs s_Lbook, defBody s_Lbook, defScope s_Lbook, [], []⟩
def d_Llower : He.DefD := ⟨("_law_lower", none), "_law_lower", "_law_lower", defArgs s_Llower, defBody s_Llower, defScope s_Llower, [], []⟩
def d_Lwords : He.DefD := ⟨("_law_words", none), "_law_words", "_law_words", defArgs s_Lwords, defBody s_Lwords, defScope s_Lwords, [], []⟩
def d_Lread : He.DefD := ⟨("_law_read", none), "_law_read", "_law_read", defArgs s_Lread, defBody s_Lread, defScope s_Lread, [], []⟩
def d_Lserves : He.DefD := ⟨("_law_serves", none), "_law_serves", "_law_serves", defArgs s_Lserves, defBody s_Lserves, defScope s_Lserves, [], []⟩
def d_Lby_hand_right : He.DefD := ⟨("_law_by_hand_right", none), "_law_by_hand_right", "_law_by_hand_right", defArgs s_Lby_hand_right, defBody s_Lby_hand_right, defScope s_Lby_hand_right, [], []⟩
def d_Lpairs_right : He.DefD := ⟨("_law_pairs_right", none), "_law_pairs_right", "_law_pairs_right", defArgs s_Lpairs_right, defBody s_Lpairs_right, defScope s_Lpairs_right, [], []⟩
def d_Lright : He.DefD := ⟨("_law_right", none), "_law_right", "_law_right", defArgs s_Lright, defBody s_Lright, defScope s_Lright, [], []⟩
def d_law : He.DefD := ⟨("law", none), "law", "law", defArgs s_law, defBody s_law, defScope s_law, [], []⟩
def fn : List He.DefD := [d_set_of, d_tupled, d_units, d_check_units, d_table_of, d_lets, d_row_within, d_greatest_within, d_whole, d_standings_of, d_without, d_ends_in, d_ends_of_paths, d_all_paths, d_is_within, d_grown, d_behind_of, d_put_behind, d_matched, d_path_chains, d_width, d_list_through, d_fewest_lists, d_Lbox, d_Lcells, d_Lmixed, d_Ltake, d_Lsame, d_Llists, d_Lpick, d_Llines, d_Lcome, d_Lstands, d_Lorders, d_Linside, d_Lbook, d_Llower, d_Lwords, d_Lread, d_Lserves, d_Lby_hand_right, d_Lpairs_right, d_Lright, d_law]
def fa1 : List He.Fa := [.glo "set_of", .glo "tupled", .glo "units", .glo "check_units", .glo "table_of", .glo "lets", .glo "row_within", .glo "greatest_within", .glo "whole", .glo "standings_of", .glo "without", .glo "ends_in", .glo "ends_of_paths", .glo "all_paths", .glo "is_within", .glo "grown", .glo "behind_of", .glo "put_behind", .glo "matched", .glo "path_chains", .glo "width", .glo "list_through"]
def fa2 : List He.Fa := [.glo "fewest_lists", .glo "_law_box", .glo "_law_cells", .glo "_law_mixed", .glo "_law_take", .glo "_law_same", .glo "_law_lists", .glo "_law_pick", .glo "_law_lines", .glo "_law_come", .glo "_law_stands", .glo "_law_orders", .glo "_law_inside", .glo "_law_book", .glo "_law_lower", .glo "_law_words", .glo "_law_read", .glo "_law_serves", .glo "_law_by_hand_right", .glo "_law_pairs_right", .glo "_law_right", .glo "law"]
def fa3 : List He.Fa := [.free "abs", .free "all", .free "any", .free "bool", .free "dict", .free "enumerate", .free "int", .free "isinstance", .free "len", .free "list", .free "range", .free "set", .free "sorted", .free "str", .free "sum", .free "tuple", .free "zip"]
def fa : List He.Fa := fa1 ++ fa2 ++ fa3
def lo1 : List PySem.Str := ["NoUnit", "set_of", "tupled", "units", "check_units", "table_of", "lets", "row_within", "greatest_within", "whole", "standings_of", "without", "ends_in", "ends_of_paths", "all_paths", "is_within", "grown", "behind_of", "put_behind", "matched", "path_chains", "width", "list_through", "fewest_lists", "_law_box"]
def lo2 : List PySem.Str := ["_law_cells", "_law_mixed", "_law_take", "_law_same", "_law_lists", "_law_pick", "_law_lines", "_law_come", "_law_stands", "_law_orders", "_law_inside", "_law_book", "_law_lower", "_law_words", "_law_read", "_law_serves", "_law_by_hand_right", "_law_pairs_right", "_law_right"]
def lo : List PySem.Str := lo1 ++ lo2
abbrev R : PySem.W.OpenRow := PySem.W.OpenLaw.row PySem.Challenge.rw_upbyany_k45_whole_fewest_lists
abbrev hk : PySem.W.Hook := He.hookD 4 fa fn
def ob (s : PySem.W.SharedT) : He.AlD := He.obsDG 4 fa fn (HandSHeadRun.getT s)
theorem ob_eq (s : PySem.W.SharedT) : ob s = hk.obs s.abs := He.obsDG_eq (HandSHeadRun.getT_eq s)
theorem run (w : World) : HandSHeadRun.RunEq R (PySem.W.view R.prog [51]) hk ob 2000 lo w := by
  intro os
  kernel_rfl
end Up

/-! text Up1 -/
set_option Elab.async false
set_option linter.all false
set_option maxRecDepth 100000
set_option maxHeartbeats 2000000
/-! data over the abstract heap, with a ghost heap that holds what is never changed -/
namespace Up
open PySem PySem.Spec PyProof.Rows L2

/-- data: what a value stands for -/
inductive D where
  | non | bl (b : Bool) | int (i : Int) | str (x : Str) | ty (n : String)
  | tup (ds : List D) | lst (ds : List D) | ftup (ds : List D)
  | dk (kvs : List (Key × D)) | fk (kvs : List (Key × D)) | dt (kvs : List (List Key × D))

/-! ### extension -/
def Ex (G H : Hp) : Prop := ∀ a o, G a = some o → H a = some o
theorem Ex.refl (G : Hp) : Ex G G := fun _ _ h => h
theorem Ex.trans {G H K : Hp} (a : Ex G H) (b : Ex H K) : Ex G K := fun x o h => b x o (a x o h)
theorem Ex.free {G H : Hp} (e : Ex G H) {a : Addr} (h : H a = none) : G a = none := by
  cases q : G a with
  | none => rfl
  | some o => rw [e a o q] at h; cases h
theorem Ex.new {G : Hp} {p : Addr} {o : HO} (h : G p = none) : Ex G (upd G p o) := fun a u e => by
  rw [upd_ne (ne_of_none e h)]; exact e
theorem Ex.mut {G H : Hp} {p : Addr} {o : HO} (e : Ex G H) (h : G p = none) : Ex G (upd H p o) := fun a u q => by
  rw [upd_ne (ne_of_none q h)]; exact e a u q
theorem Ex.both {G H : Hp} {p : Addr} {o : HO} (e : Ex G H) : Ex (upd G p o) (upd H p o) := fun a u q => by
  by_cases h : a = p
  · subst h; rw [upd_same] at q ⊢; exact q
  · rw [upd_ne h] at q ⊢; exact e a u q

/-! ### data in a heap -/
mutual
inductive Rp (G : Hp) : D → V → Prop
  | non : Rp G .non .non
  | bl (b : Bool) : Rp G (.bl b) (.bl b)
  | int (i : Int) : Rp G (.int i) (.int i)
  | str (x : Str) : Rp G (.str x) (.str x)
  | ty (n : String) : Rp G (.ty n) (.ty n)
  | tup {a : Addr} {vs : List V} {ds : List D} : G a = some (.tup vs) → Rps G ds vs → Rp G (.tup ds) (.ref a)
  | lst {a : Addr} {vs : List V} {ds : List D} : G a = some (.lst vs) → Rps G ds vs → Rp G (.lst ds) (.ref a)
  | ftup {a : Addr} {o : Obj} {vs : List V} {ds : List D} : G a = some (.frz o (.tup vs)) → o.dict = none → Rps G ds vs → Rp G (.ftup ds) (.ref a)
  | dk {a : Addr} {ws : List (Key × V)} {kvs : List (Key × D)} : G a = some (.dK ws) → Rpk G kvs ws → Rp G (.dk kvs) (.ref a)
  | fk {a : Addr} {ws : List (Key × V)} {kvs : List (Key × D)} : Rd G a (.dK ws) → Rpk G kvs ws → Rp G (.fk kvs) (.ref a)
  | dt {a : Addr} {ws : List (List Key × V)} {kvs : List (List Key × D)} : Rd G a (.dT ws) → Rpt G kvs ws → Rp G (.dt kvs) (.ref a)
inductive Rps (G : Hp) : List D → List V → Prop
  | nil : Rps G [] []
  | cons {d : D} {ds : List D} {v : V} {vs : List V} : Rp G d v → Rps G ds vs → Rps G (d :: ds) (v :: vs)
inductive Rpk (G : Hp) : List (Key × D) → List (Key × V) → Prop
  | nil : Rpk G [] []
  | cons {k : Key} {d : D} {ds : List (Key × D)} {v : V} {vs : List (Key × V)} : Rp G d v → Rpk G ds vs → Rpk G ((k, d) :: ds) ((k, v) :: vs)
inductive Rpt (G : Hp) : List (List Key × D) → List (List Key × V) → Prop
  | nil : Rpt G [] []
  | cons {k : List Key} {d : D} {ds : List (List Key × D)} {v : V} {vs : List (List Key × V)} : Rp G d v → Rpt G ds vs → Rpt G ((k, d) :: ds) ((k, v) :: vs)
end

/-- what one heap says of objects, the other says too -/
structure Le (G G' : Hp) : Prop where
  t : ∀ a vs, G a = some (.tup vs) → G' a = some (.tup vs)
  l : ∀ a vs, G a = some (.lst vs) → G' a = some (.lst vs)
  f : ∀ a o vs, G a = some (.frz o (.tup vs)) → G' a = some (.frz o (.tup vs))
  r : ∀ a (u : List (Key × V)), Rd G a (.dK u) → Rd G' a (.dK u)
  rt : ∀ a (u : List (List Key × V)), Rd G a (.dT u) → Rd G' a (.dT u)
theorem Ex.le {G H : Hp} (e : Ex G H) : Le G H := ⟨fun a vs h => e a _ h, fun a vs h => e a _ h, fun a o vs h => e a _ h, fun a u h => h.elim (fun q => .inl (e a _ q)) fun ⟨o, q⟩ => .inr ⟨o, e a _ q⟩, fun a u h => h.elim (fun q => .inl (e a _ q)) fun ⟨o, q⟩ => .inr ⟨o, e a _ q⟩⟩

mutual
/-- no dict that may be written -/
def noDk : D → Bool
  | .dk _ => false
  | .tup ds => noDks ds | .lst ds => noDks ds | .ftup ds => noDks ds | .fk kvs => noDkk kvs | .dt kvs => noDkt kvs
  | _ => true
def noDks : List D → Bool
  | [] => true
  | d :: ds => noDk d && noDks ds
def noDkk : List (Key × D) → Bool
  | [] => true
  | (_, d) :: ds => noDk d && noDkk ds
def noDkt : List (List Key × D) → Bool
  | [] => true
  | (_, d) :: ds => noDk d && noDkt ds
end
mutual
theorem Rp.le {G G' : Hp} (l : Le G G') : ∀ (d : D) (v : V), (noDk d = true ∨ ∀ a ws, G a = some (.dK ws) → G' a = some (.dK ws)) → Rp G d v → Rp G' d v
  | .non, _, _, h => by cases h; exact .non
  | .bl b, _, _, h => by cases h; exact .bl b
  | .int i, _, _, h => by cases h; exact .int i
  | .str x, _, _, h => by cases h; exact .str x
  | .ty x, _, _, h => by cases h; exact .ty x
  | .tup ds, _, n, h => by cases h with | tup h r => exact .tup (l.t _ _ h) (Rps.le l ds _ n r)
  | .lst ds, _, n, h => by cases h with | lst h r => exact .lst (l.l _ _ h) (Rps.le l ds _ n r)
  | .ftup ds, _, n, h => by cases h with | ftup h o r => exact .ftup (l.f _ _ _ h) o (Rps.le l ds _ n r)
  | .dk kvs, _, n, h => by
    rcases n with n | n
    · cases n
    · cases h with | dk h r => exact .dk (n _ _ h) (Rpk.le l kvs _ (.inr n) r)
  | .fk kvs, _, n, h => by cases h with | fk h r => exact .fk (l.r _ _ h) (Rpk.le l kvs _ n r)
  | .dt kvs, _, n, h => by cases h with | dt h r => exact .dt (l.rt _ _ h) (Rpt.le l kvs _ n r)
theorem Rps.le {G G' : Hp} (l : Le G G') : ∀ (ds : List D) (vs : List V), (noDks ds = true ∨ ∀ a ws, G a = some (.dK ws) → G' a = some (.dK ws)) → Rps G ds vs → Rps G' ds vs
  | [], _, _, h => by cases h; exact .nil
  | d :: ds, _, n, h => by cases h with | cons h r => exact .cons (Rp.le l d _ (n.imp (fun z => (Bool.and_eq_true_iff.mp z).1) id) h) (Rps.le l ds _ (n.imp (fun z => (Bool.and_eq_true_iff.mp z).2) id) r)
theorem Rpk.le {G G' : Hp} (l : Le G G') : ∀ (ds : List (Key × D)) (vs : List (Key × V)), (noDkk ds = true ∨ ∀ a ws, G a = some (.dK ws) → G' a = some (.dK ws)) → Rpk G ds vs → Rpk G' ds vs
  | [], _, _, h => by cases h; exact .nil
  | (k, d) :: ds, _, n, h => by cases h with | cons h r => exact .cons (Rp.le l d _ (n.imp (fun z => (Bool.and_eq_true_iff.mp z).1) id) h) (Rpk.le l ds _ (n.imp (fun z => (Bool.and_eq_true_iff.mp z).2) id) r)
theorem Rpt.le {G G' : Hp} (l : Le G G') : ∀ (ds : List (List Key × D)) (vs : List (List Key × V)), (noDkt ds = true ∨ ∀ a ws, G a = some (.dK ws) → G' a = some (.dK ws)) → Rpt G ds vs → Rpt G' ds vs
  | [], _, _, h => by cases h; exact .nil
  | (k, d) :: ds, _, n, h => by cases h with | cons h r => exact .cons (Rp.le l d _ (n.imp (fun z => (Bool.and_eq_true_iff.mp z).1) id) h) (Rpt.le l ds _ (n.imp (fun z => (Bool.and_eq_true_iff.mp z).2) id) r)
end
theorem Rp.mono {G G' : Hp} {d : D} {v : V} (h : Rp G d v) (e : Ex G G') : Rp G' d v := Rp.le e.le d v (.inr fun a ws q => e a _ q) h
theorem Rps.mono {G G' : Hp} {d : List D} {v : List V} (h : Rps G d v) (e : Ex G G') : Rps G' d v := Rps.le e.le d v (.inr fun a ws q => e a _ q) h
theorem Rpk.mono {G G' : Hp} {d : List (Key × D)} {v : List (Key × V)} (h : Rpk G d v) (e : Ex G G') : Rpk G' d v := Rpk.le e.le d v (.inr fun a ws q => e a _ q) h
theorem Rpt.mono {G G' : Hp} {d : List (List Key × D)} {v : List (List Key × V)} (h : Rpt G d v) (e : Ex G G') : Rpt G' d v := Rpt.le e.le d v (.inr fun a ws q => e a _ q) h

theorem Rps.len {G : Hp} : ∀ {ds : List D} {vs : List V}, Rps G ds vs → ds.length = vs.length
  | [], _, h => by cases h; rfl
  | _ :: _, _, h => by cases h with | cons _ r => rw [List.length_cons, List.length_cons, r.len]
theorem Rpk.len {G : Hp} : ∀ {ds : List (Key × D)} {vs : List (Key × V)}, Rpk G ds vs → ds.length = vs.length
  | [], _, h => by cases h; rfl
  | _ :: _, _, h => by cases h with | cons _ r => rw [List.length_cons, List.length_cons, r.len]
theorem Rpt.len {G : Hp} : ∀ {ds : List (List Key × D)} {vs : List (List Key × V)}, Rpt G ds vs → ds.length = vs.length
  | [], _, h => by cases h; rfl
  | _ :: _, _, h => by cases h with | cons _ r => rw [List.length_cons, List.length_cons, r.len]
theorem Rps.get {G : Hp} : ∀ {ds : List D} {vs : List V} {i : Nat} {v : V}, Rps G ds vs → vs[i]? = some v → ∃ d, ds[i]? = some d ∧ Rp G d v
  | [], _, i, v, h, e => by cases h; simp at e
  | d :: ds, _, 0, v, h, e => by
    cases h with | cons h r => cases e; exact ⟨d, rfl, h⟩
  | d :: ds, _, i + 1, v, h, e => by
    cases h with | cons h r => exact r.get (by simpa using e)
theorem Rps.get' {G : Hp} : ∀ {ds : List D} {vs : List V} {i : Nat} {d : D}, Rps G ds vs → ds[i]? = some d → ∃ v, vs[i]? = some v ∧ Rp G d v
  | [], _, i, v, h, e => by simp at e
  | d :: ds, _, 0, v, h, e => by
    cases h with | cons h r => cases e; exact ⟨_, rfl, h⟩
  | d :: ds, _, i + 1, v, h, e => by
    cases h with | cons h r => exact r.get' (by simpa using e)
theorem Rps.append {G : Hp} : ∀ {ds es : List D} {vs ws : List V}, Rps G ds vs → Rps G es ws → Rps G (ds ++ es) (vs ++ ws)
  | [], _, _, _, h, r => by cases h; exact r
  | _ :: _, _, _, _, h, r => by cases h with | cons h t => exact .cons h (t.append r)
theorem Rps.one {G : Hp} {d : D} {v : V} (h : Rp G d v) : Rps G [d] [v] := .cons h .nil
theorem Rps.take {G : Hp} : ∀ {ds : List D} {vs : List V} (n : Nat), Rps G ds vs → Rps G (ds.take n) (vs.take n)
  | _, _, 0, _ => .nil
  | [], _, n + 1, h => by cases h; exact .nil
  | _ :: _, _, n + 1, h => by cases h with | cons h r => exact .cons h (r.take n)
theorem Rps.drop {G : Hp} : ∀ {ds : List D} {vs : List V} (n : Nat), Rps G ds vs → Rps G (ds.drop n) (vs.drop n)
  | _, _, 0, h => h
  | [], _, n + 1, h => by cases h; exact .nil
  | _ :: _, _, n + 1, h => by cases h with | cons h r => exact r.drop n
theorem Rps.strs {G : Hp} : ∀ {xs : List Str} {vs : List V}, Rps G (xs.map D.str) vs → vs = xs.map V.str
  | [], _, h => by cases h; rfl
  | x :: xs, _, h => by
    cases h with | cons h r => cases h; rw [r.strs]; rfl
theorem Rps.of_strs {G : Hp} : ∀ (xs : List Str), Rps G (xs.map D.str) (xs.map V.str)
  | [] => .nil
  | x :: xs => .cons (.str x) (Rps.of_strs xs)
theorem Rps.ints {G : Hp} : ∀ {xs : List Int} {vs : List V}, Rps G (xs.map D.int) vs → vs = xs.map V.int
  | [], _, h => by cases h; rfl
  | x :: xs, _, h => by
    cases h with | cons h r => cases h; rw [r.ints]; rfl
theorem Rps.of_ints {G : Hp} : ∀ (xs : List Int), Rps G (xs.map D.int) (xs.map V.int)
  | [] => .nil
  | x :: xs => .cons (.int x) (Rps.of_ints xs)
theorem Rps.bls {G : Hp} : ∀ {xs : List Bool} {vs : List V}, Rps G (xs.map D.bl) vs → vs = xs.map V.bl
  | [], _, h => by cases h; rfl
  | x :: xs, _, h => by
    cases h with | cons h r => cases h; rw [r.bls]; rfl

/-! ### steps: from (G, H) to (G', H'); what M holds may have changed -/
abbrev NoT (o : HO) : Prop := ∀ xs, o ≠ .tup xs
structure Gr (M : Addr → Prop) (G H G' H' : Hp) : Prop where
  gg : Ex G G'
  gh : Ex G' H'
  hh : ∀ a o, ¬ M a → H a = some o → H' a = some o
  mm : ∀ a o, H a = some o → ∃ o', H' a = some o' ∧ (NoT o → NoT o')
  nw : ∀ a o, G a = none → H a = some o → NoT o → G' a = none
abbrev N0 : Addr → Prop := fun _ => False
section
variable {M M' : Addr → Prop} {G H G1 H1 G2 H2 : Hp}
theorem Gr.refl (e : Ex G H) : Gr M G H G H := ⟨.refl G, e, fun _ _ _ h => h, fun _ o h => ⟨o, h, id⟩, fun _ _ h _ _ => h⟩
theorem Gr.trans (a : Gr M G H G1 H1) (b : Gr M G1 H1 G2 H2) : Gr M G H G2 H2 :=
  ⟨a.gg.trans b.gg, b.gh, fun x o n h => b.hh x o n (a.hh x o n h), fun x o h =>
    let ⟨_, h1, k1⟩ := a.mm x o h
    let ⟨o2, h2, k2⟩ := b.mm x _ h1
    ⟨o2, h2, fun z => k2 (k1 z)⟩, fun x o g h z =>
    let ⟨_, h1, k1⟩ := a.mm x o h
    b.nw x _ (a.nw x o g h z) h1 (k1 z)⟩
theorem Gr.wk (a : Gr M G H G1 H1) (h : ∀ x, M x → M' x) : Gr M' G H G1 H1 := ⟨a.gg, a.gh, fun x o n q => a.hh x o (fun z => n (h x z)) q, a.mm, a.nw⟩
theorem Gr.wk0 (a : Gr N0 G H G1 H1) : Gr M G H G1 H1 := a.wk fun _ h => h.elim
theorem Gr.ex (a : Gr N0 G H G1 H1) : Ex H H1 := fun x o h => a.hh x o (fun z => z) h
theorem Gr.free (a : Gr M G H G1 H1) {p : Addr} (h : H1 p = none) : H p = none := by
  cases q : H p with
  | none => rfl
  | some o =>
    obtain ⟨_, e, _⟩ := a.mm p o q
    rw [h] at e; cases e
/-- a local object stays as it is -/
theorem Gr.at (a : Gr M G H G1 H1) {p : Addr} {o : HO} (n : ¬ M p) (h : H p = some o) : H1 p = some o := a.hh p o n h
theorem Gr.at0 (a : Gr N0 G H G1 H1) {p : Addr} {o : HO} (h : H p = some o) : H1 p = some o := a.hh p o (fun z => z) h
theorem Gr.off (a : Gr M G H G1 H1) {p : Addr} {o : HO} (g : G p = none) (h : H p = some o) (nt : NoT o := by intro _ z; cases z) : G1 p = none := a.nw p o g h nt
/-- a new datum -/
theorem Gr.data (a : Gr M G H G1 H1) {p : Addr} {o : HO} (h : H1 p = none) : Gr M G H (upd G1 p o) (upd H1 p o) where
  gg := a.gg.trans (Ex.new (a.gh.free h))
  gh := a.gh.both
  hh := fun x u n q => by rw [upd_ne (ne_of_none (a.hh x u n q) h)]; exact a.hh x u n q
  mm := fun x u q => by
    obtain ⟨u', e, k⟩ := a.mm x u q
    have ne : x ≠ p := fun z => by rw [z, h] at e; cases e
    rw [upd_ne ne]; exact ⟨u', e, k⟩
  nw := fun x u g q nt => by
    obtain ⟨u', e, k⟩ := a.mm x u q
    have ne : x ≠ p := fun z => by rw [z, h] at e; cases e
    rw [upd_ne ne]; exact a.nw x u g q nt
/-- a local object is laid or changed -/
theorem Gr.put (a : Gr M G H G1 H1) {p : Addr} {o : HO} (hp : H p = none ∨ M p) (g : G1 p = none) (nt : NoT o := by intro _ z; cases z) : Gr M G H G1 (upd H1 p o) where
  gg := a.gg
  gh := a.gh.mut g
  hh := fun x u n q => by
    have e : x ≠ p := fun e => by
      subst e
      rcases hp with z | z
      · rw [q] at z; cases z
      · exact n z
    rw [upd_ne e]; exact a.hh x u n q
  mm := fun x u q => by
    by_cases e : x = p
    · subst e; rw [upd_same]; exact ⟨o, rfl, fun _ => nt⟩
    · rw [upd_ne e]; exact a.mm x u q
  nw := a.nw
/-- a local object becomes a datum -/
theorem Gr.seal (a : Gr M G H G1 H1) {p : Addr} {o : HO} (hp : H p = none) (h : H1 p = some o) : Gr M G H (upd G1 p o) H1 where
  gg := fun x u q => by
    by_cases e : x = p
    · subst e
      have := a.gh x u (a.gg x u q)
      rw [h] at this; rw [upd_same]; exact this
    · rw [upd_ne e]; exact a.gg x u q
  gh := fun x u q => by
    by_cases e : x = p
    · subst e; rw [upd_same] at q; cases q; exact h
    · rw [upd_ne e] at q; exact a.gh x u q
  hh := a.hh
  mm := a.mm
  nw := fun x u g q nt => by
    have e : x ≠ p := fun e => by rw [e, hp] at q; cases q
    rw [upd_ne e]; exact a.nw x u g q nt
/-- a tuple becomes a datum -/
theorem Gr.sealT (a : Gr M G H G1 H1) {p : Addr} {xs : List V} (h : H1 p = some (.tup xs)) : Gr M G H (upd G1 p (.tup xs)) H1 where
  gg := fun x u q => by
    by_cases e : x = p
    · subst e
      have := a.gh x u (a.gg x u q)
      rw [h] at this; rw [upd_same]; exact this
    · rw [upd_ne e]; exact a.gg x u q
  gh := fun x u q => by
    by_cases e : x = p
    · subst e; rw [upd_same] at q; cases q; exact h
    · rw [upd_ne e] at q; exact a.gh x u q
  hh := a.hh
  mm := a.mm
  nw := fun x u g q nt => by
    obtain ⟨u', e', k⟩ := a.mm x u q
    have e : x ≠ p := fun e => by
      rw [e, h] at e'
      cases e'
      exact k nt xs rfl
    rw [upd_ne e]; exact a.nw x u g q nt
theorem Gr.sealTs (a : Gr M G H G1 H1) : ∀ L : List (Addr × List V), (∀ p ∈ L, H1 p.1 = some (.tup p.2)) → ∃ G2, Gr M G H G2 H1 ∧ Ex G1 G2 ∧ ∀ p ∈ L, G2 p.1 = some (.tup p.2)
  | [], _ => ⟨G1, a, .refl _, (fun p h => nomatch h)⟩
  | x :: L, h => by
    obtain ⟨G2, b, e, k⟩ := a.sealTs L fun p hp => h p (List.mem_cons_of_mem _ hp)
    have hx := h x List.mem_cons_self
    have c := b.sealT hx
    refine ⟨_, c, fun y o q => ?_, fun p hp => ?_⟩
    · by_cases z : y = x.1
      · subst z
        have := b.gh _ _ (e _ _ q)
        rw [hx] at this
        rw [upd_same]; exact this
      · rw [upd_ne z]; exact e _ _ q
    · by_cases z : p.1 = x.1
      · rw [z, upd_same]
        have := h p hp
        rw [z, hx] at this
        exact this
      · rw [upd_ne z]
        rcases List.mem_cons.mp hp with y | y
        · exact absurd (by rw [y]) z
        · exact k p y
end

/-! ### expressions that give data, and change nothing -/
def GD (te : TE) (σ : L2.St) (G : Hp) (d : D) : Prop := ∀ H, Ex G H → ∀ Q : VK, (∀ v G' H', Gr N0 G H G' H' → Rp G' d v → Q v H') → te σ H Q
/-- .. a new list of data, that is the def's own -/
def GL (te : TE) (σ : L2.St) (G : Hp) (ds : List D) : Prop := ∀ H, Ex G H → ∀ Q : VK, (∀ p vs G' H', Gr N0 G H G' H' → H p = none → G' p = none → H' p = some (.lst vs) → Rps G' ds vs → Q (.ref p) H') → te σ H Q
def GT (tt : TT) (σ : L2.St) (G : Hp) (b : Bool) : Prop := ∀ H, Ex G H → ∀ Q : Bool → Hp → Prop, (∀ G' H', Gr N0 G H G' H' → Q b H') → tt σ H Q
def GA (ta : TA) (σ : L2.St) (G : Hp) (ds : List D) : Prop := ∀ H, Ex G H → ∀ Q : List V → Hp → Prop, (∀ vs G' H', Gr N0 G H G' H' → Rps G' ds vs → Q vs H') → ta σ H Q
/-- the union of two parts of one heap -/
def uni (G G' : Hp) : Hp := fun a => match G a with
  | some o => some o
  | none => G' a
section
variable {G G' H H' G1 : Hp}
theorem uni_l : Ex G (uni G G') := fun a o h => by unfold uni; rw [h]
theorem uni_r (hg : Ex G H') (h : Ex G' H') : Ex G' (uni G G') := fun a o e => by
  unfold uni
  cases q : G a with
  | none => exact e
  | some u =>
    have h1 := hg a u q
    rw [h a o e] at h1
    exact h1.symm
theorem Gr.up (a : Gr N0 G H G' H') (e : Ex G G1) (e1 : Ex G1 H) : Gr N0 G1 H (uni G1 G') H' ∧ Ex G' (uni G1 G') := by
  have k : Ex G1 H' := e1.trans a.ex
  refine ⟨⟨uni_l, fun x o q => ?_, a.hh, a.mm, fun x o g h nt => ?_⟩, uni_r k a.gh⟩
  · unfold uni at q
    cases z : G1 x with
    | none => rw [z] at q; exact a.gh x o q
    | some u => rw [z] at q; cases q; exact k x o z
  · unfold uni; rw [g]; exact a.nw x o (e.free g) h nt
end
section
variable {σ : L2.St} {G G1 : Hp} {te : TE} {tt : TT} {ta : TA} {d : D} {ds : List D} {b : Bool}
theorem GD.mono (h : GD te σ G d) (e : Ex G G1) : GD te σ G1 d := fun H x Q q => h H (e.trans x) Q fun v G' H' g r =>
  let ⟨a, c⟩ := g.up e x
  q v _ H' a (r.mono c)
theorem GL.mono (h : GL te σ G ds) (e : Ex G G1) : GL te σ G1 ds := fun H x Q q => h H (e.trans x) Q fun p vs G' H' g hp gp hv r =>
  let ⟨a, c⟩ := g.up e x
  q p vs _ H' a hp (by unfold uni; rw [x.free hp]; exact gp) hv (r.mono c)
theorem GT.mono (h : GT tt σ G b) (e : Ex G G1) : GT tt σ G1 b := fun H x Q q => h H (e.trans x) Q fun G' H' g =>
  let ⟨a, _⟩ := g.up e x
  q _ H' a
theorem GA.mono (h : GA ta σ G ds) (e : Ex G G1) : GA ta σ G1 ds := fun H x Q q => h H (e.trans x) Q fun v G' H' g r =>
  let ⟨a, c⟩ := g.up e x
  q v _ H' a (r.mono c)
end
theorem sz_of {n : Nat} (h : n ≤ 100000) : n ≤ sizeLine := Nat.le_trans h (by decide)
theorem sz_lt {n : Nat} (h : n < 100000) : n < sizeLine := Nat.lt_of_lt_of_le h (by decide)
section
variable {K : PySem.W.Frag} {σ : L2.St} {G : Hp} {ta tb te : TE} {tt tu : TT} {tr : TA} {d x y z : D} {ds es : List D}
theorem gd_var {i : Nat} {v : V} (h : σ[i]? = some (some v)) (r : Rp G d v) : GD (tVar i) σ G d := fun H e Q q => ⟨v, h, q v G H (.refl e) r⟩
theorem gd_c {v : V} (r : Rp G d v) : GD (tC v) σ G d := fun H e Q q => q v G H (.refl e) r
theorem gd_is (h : GD te σ G d) (e : d = x) : GD te σ G x := by rw [← e]; exact h
theorem gt_is {a b : Bool} (h : GT tt σ G a) (e : a = b) : GT tt σ G b := by rw [← e]; exact h
theorem ga_nil : GA tNil σ G [] := fun H e Q q => q [] G H (.refl e) .nil
theorem ga_cons (h : GD te σ G d) (r : GA tr σ G ds) : GA (tCons te tr) σ G (d :: ds) := fun H e Q q =>
  h H e _ fun v G' H' g rv => (r.mono g.gg) H' g.gh _ fun vs G2 H2 g2 rs => q _ G2 H2 (g.trans g2) (.cons (rv.mono g2.gg) rs)
theorem ga_one (h : GD te σ G d) : GA (tCons te tNil) σ G [d] := ga_cons h ga_nil
theorem ga_two (h : GD ta σ G x) (h' : GD tb σ G y) : GA (tCons ta (tCons tb tNil)) σ G [x, y] := ga_cons h (ga_one h')
theorem gd_tup (h : GA tr σ G ds) (hl : ds.length ≤ 100000) : GD (tTup tr) σ G (.tup ds) := fun H e Q q =>
  h H e _ fun vs G' H' g r => ⟨sz_of (by rw [← r.len]; exact hl), fun p hp => q _ _ _ (g.data hp) (.tup upd_same (r.mono (Ex.new (g.gh.free hp))))⟩
theorem gd_lst (h : GA tr σ G ds) (hl : ds.length ≤ 100000) : GD (tLst tr) σ G (.lst ds) := fun H e Q q =>
  h H e _ fun vs G' H' g r => ⟨sz_of (by rw [← r.len]; exact hl), fun p hp => q _ _ _ (g.data hp) (.lst upd_same (r.mono (Ex.new (g.gh.free hp))))⟩
theorem gl_lst (h : GA tr σ G ds) (hl : ds.length ≤ 100000) : GL (tLst tr) σ G ds := fun H e Q q =>
  h H e _ fun vs G' H' g r => ⟨sz_of (by rw [← r.len]; exact hl), fun p hp => q p vs G' _ (g.put (.inl (g.free hp)) (g.gh.free hp)) (g.free hp) (g.gh.free hp) upd_same r⟩
/-- a new list as a datum -/
theorem GL.gd (h : GL te σ G ds) : GD te σ G (.lst ds) := fun H e Q q => h H e _ fun p vs G' H' g hp gp hv r =>
  q _ _ _ (g.seal hp hv) (.lst upd_same (r.mono (Ex.new gp)))
/-! tests -/
theorem gt_B {b : Bool} (h : GD te σ G (.bl b)) : GT (tB te) σ G b := fun H e Q q => h H e _ fun v G' H' g r => by
  cases r; exact ⟨b, rfl, q _ _ g⟩
theorem gt_test {b : Bool} (h : GD te σ G (.bl b)) : GT (tTest te) σ G b := fun H e Q q => h H e _ fun v G' H' g r => by
  cases r; exact ⟨b, rfl, q _ _ g⟩
theorem gt_and {a b : Bool} (h1 : GT tt σ G a) (h2 : a = true → GT tu σ G b) : GT (tAnd tt tu) σ G (a && b) := fun H e Q q => h1 H e _ fun G' H' g => by
  cases a with
  | true => exact iteT (((h2 rfl).mono g.gg) H' g.gh Q fun G2 H2 g2 => q _ _ (g.trans g2))
  | false => exact iteF (q _ _ g)
theorem gt_or {a b : Bool} (h1 : GT tt σ G a) (h2 : a = false → GT tu σ G b) : GT (tOr tt tu) σ G (a || b) := fun H e Q q => h1 H e _ fun G' H' g => by
  cases a with
  | true => exact iteT (q _ _ g)
  | false => exact iteF (((h2 rfl).mono g.gg) H' g.gh Q fun G2 H2 g2 => q _ _ (g.trans g2))
theorem gt_not {a : Bool} (h1 : GT tt σ G a) : GT (tNot tt) σ G (!a) := fun H e Q q => h1 H e _ fun G' H' g => q _ _ g
theorem gd_and {a b : Bool} (h1 : GD ta σ G (.bl a)) (h2 : a = true → GD tb σ G (.bl b)) : GD (tAndV ta tb) σ G (.bl (a && b)) := fun H e Q q => h1 H e _ fun v G' H' g r => by
  cases r
  refine ⟨a, rfl, ?_⟩
  cases a with
  | true => exact iteT (((h2 rfl).mono g.gg) H' g.gh Q fun v G2 H2 g2 r2 => q _ _ _ (g.trans g2) r2)
  | false => exact iteF (q _ _ _ g (.bl false))
theorem gd_or {a b : Bool} (h1 : GD ta σ G (.bl a)) (h2 : a = false → GD tb σ G (.bl b)) : GD (tOrV ta tb) σ G (.bl (a || b)) := fun H e Q q => h1 H e _ fun v G' H' g r => by
  cases r
  refine ⟨a, rfl, ?_⟩
  cases a with
  | true => exact iteT (q _ _ _ g (.bl true))
  | false => exact iteF (((h2 rfl).mono g.gg) H' g.gh Q fun v G2 H2 g2 r2 => q _ _ _ (g.trans g2) r2)
theorem gd_not {a : Bool} (h1 : GD ta σ G (.bl a)) : GD (tNotV ta) σ G (.bl (!a)) := fun H e Q q => h1 H e _ fun v G' H' g r => by
  cases r
  exact ⟨a, rfl, q _ _ _ g (.bl _)⟩
theorem gd_if {b : Bool} (h : GT tt σ G b) (h1 : b = true → GD ta σ G d) (h2 : b = false → GD tb σ G d) : GD (tIf tt ta tb) σ G d := fun H e Q q => h H e _ fun G' H' g => by
  cases b with
  | true => exact iteT (((h1 rfl).mono g.gg) H' g.gh Q fun v G2 H2 g2 r2 => q _ _ _ (g.trans g2) r2)
  | false => exact iteF (((h2 rfl).mono g.gg) H' g.gh Q fun v G2 H2 g2 r2 => q _ _ _ (g.trans g2) r2)
/-! operators by data -/
def RO (r : R2) (x y z : D) : Prop := ∀ G v w, Rp G x v → Rp G y w → ∀ H, Ex G H → ∀ Q : VK, (∀ v G' H', Gr N0 G H G' H' → Rp G' z v → Q v H') → r v w H Q
theorem gd_op {r : R2} (ha : GD ta σ G x) (hb : GD tb σ G y) (hr : RO r x y z) : GD (tOp r ta tb) σ G z := fun H e Q q =>
  ha H e _ fun v G1 H1 g1 r1 => (hb.mono g1.gg) H1 g1.gh _ fun w G2 H2 g2 r2 => hr G2 v w (r1.mono g2.gg) r2 H2 g2.gh Q fun u G3 H3 g3 r3 => q u G3 H3 ((g1.trans g2).trans g3) r3
/-- the answer changes nothing -/
theorem ro_val {r : R2} (h : ∀ G v w, Rp G x v → Rp G y w → ∀ H, Ex G H → ∀ Q : VK, (∀ u, Rp G z u → Q u H) → r v w H Q) : RO r x y z := fun G v w hv hw H e Q q => h G v w hv hw H e Q fun u ru => q u G H (.refl e) ru
theorem ro_int {f : Int → Int → Int} {i j : Int} : RO (rI0 fun i j => .int (f i j)) (.int i) (.int j) (.int (f i j)) := ro_val fun G v w hv hw H e Q q => by
  cases hv; cases hw
  exact ⟨i, j, rfl, rfl, q _ (.int _)⟩
theorem ro_cmp {p : Int → Int → Bool} {i j : Int} : RO (rI0 fun i j => .bl (p i j)) (.int i) (.int j) (.bl (p i j)) := ro_val fun G v w hv hw H e Q q => by
  cases hv; cases hw
  exact ⟨i, j, rfl, rfl, q _ (.bl _)⟩
theorem ro_intC {C : Int → Int → Prop} {f : Int → Int → Int} {i j : Int} (hc : C i j) : RO (rI C fun i j => .int (f i j)) (.int i) (.int j) (.int (f i j)) := ro_val fun G v w hv hw H e Q q => by
  cases hv; cases hw
  exact ⟨i, j, rfl, rfl, hc, q _ (.int _)⟩
theorem ro_eqI {i j : Int} : RO rEq (.int i) (.int j) (.bl (decide (i = j))) := ro_val fun G v w hv hw H e Q q => by
  cases hv; cases hw
  refine ⟨rfl, ?_⟩
  have : decide (V.int i = V.int j) = decide (i = j) := by rw [Bool.eq_iff_iff]; simp
  rw [this]; exact q _ (.bl _)
theorem ro_neI {i j : Int} : RO rNe (.int i) (.int j) (.bl (!decide (i = j))) := ro_val fun G v w hv hw H e Q q => by
  cases hv; cases hw
  refine ⟨rfl, ?_⟩
  have : decide (V.int i = V.int j) = decide (i = j) := by rw [Bool.eq_iff_iff]; simp
  rw [this]; exact q _ (.bl _)
theorem ro_eqS {i j : Str} : RO rEq (.str i) (.str j) (.bl (decide (i = j))) := ro_val fun G v w hv hw H e Q q => by
  cases hv; cases hw
  refine ⟨rfl, ?_⟩
  have : decide (V.str i = V.str j) = decide (i = j) := by rw [Bool.eq_iff_iff]; simp
  rw [this]; exact q _ (.bl _)
theorem ro_neS {i j : Str} : RO rNe (.str i) (.str j) (.bl (!decide (i = j))) := ro_val fun G v w hv hw H e Q q => by
  cases hv; cases hw
  refine ⟨rfl, ?_⟩
  have : decide (V.str i = V.str j) = decide (i = j) := by rw [Bool.eq_iff_iff]; simp
  rw [this]; exact q _ (.bl _)
theorem ro_eqB {i j : Bool} : RO rEq (.bl i) (.bl j) (.bl (decide (i = j))) := ro_val fun G v w hv hw H e Q q => by
  cases hv; cases hw
  refine ⟨rfl, ?_⟩
  have : decide (V.bl i = V.bl j) = decide (i = j) := by rw [Bool.eq_iff_iff]; simp
  rw [this]; exact q _ (.bl _)
theorem ro_neB {i j : Bool} : RO rNe (.bl i) (.bl j) (.bl (!decide (i = j))) := ro_val fun G v w hv hw H e Q q => by
  cases hv; cases hw
  refine ⟨rfl, ?_⟩
  have : decide (V.bl i = V.bl j) = decide (i = j) := by rw [Bool.eq_iff_iff]; simp
  rw [this]; exact q _ (.bl _)
/-! in, among flat items -/
theorem inV_strs (x : Str) (xs : List Str) : inV (.str x) (xs.map V.str) = decide (x ∈ xs) := by
  unfold inV
  rw [Bool.eq_iff_iff, List.any_map, List.any_eq_true]
  simp only [Function.comp, decide_eq_true_eq]
  constructor
  · rintro ⟨y, hy, e⟩
    have e' : y = x := by
      have : (y == x) = true := e
      simpa using this
    exact e' ▸ hy
  · intro h
    exact ⟨x, h, by show (x == x) = true; simp⟩
theorem inV_ints (x : Int) (xs : List Int) : inV (.int x) (xs.map V.int) = decide (x ∈ xs) := by
  unfold inV
  rw [Bool.eq_iff_iff, List.any_map, List.any_eq_true]
  simp only [Function.comp, decide_eq_true_eq]
  constructor
  · rintro ⟨y, hy, e⟩
    have e' : y = x := by
      have : (y == x) = true := e
      simpa using this
    exact e' ▸ hy
  · intro h
    exact ⟨x, h, by show (x == x) = true; simp⟩
theorem flat_strs' (xs : List Str) : (xs.map V.str).all flatV = true := by
  rw [List.all_map]; exact List.all_eq_true.mpr fun _ _ => rfl
theorem flat_ints' (xs : List Int) : (xs.map V.int).all flatV = true := by
  rw [List.all_map]; exact List.all_eq_true.mpr fun _ _ => rfl
theorem sqT_of {G H : Hp} {a : Addr} {vs : List V} (e : Ex G H) (h : G a = some (.tup vs)) : SqT K H a vs := .inl (.inl (e _ _ h))
theorem sqL_of {G H : Hp} {a : Addr} {vs : List V} (e : Ex G H) (h : G a = some (.lst vs)) : SqL K H a vs := .inl (.inl (e _ _ h))
def notB (neg b : Bool) : Bool := if neg then !b else b
theorem ro_inT {neg : Bool} {s : Str} {xs : List Str} : RO (rIn K neg) (.str s) (.tup (xs.map .str)) (.bl (notB neg (decide (s ∈ xs)))) := ro_val fun G v w hv hw H e Q q => by
  cases hv
  cases hw with
  | tup h r =>
    obtain rfl := r.strs
    refine ⟨_, _, rfl, .inr (sqT_of e h), rfl, flat_strs' xs, ?_⟩
    rw [inV_strs]; exact q _ (.bl _)
theorem ro_inL {neg : Bool} {s : Str} {xs : List Str} : RO (rIn K neg) (.str s) (.lst (xs.map .str)) (.bl (notB neg (decide (s ∈ xs)))) := ro_val fun G v w hv hw H e Q q => by
  cases hv
  cases hw with
  | lst h r =>
    obtain rfl := r.strs
    refine ⟨_, _, rfl, .inl (sqL_of e h), rfl, flat_strs' xs, ?_⟩
    rw [inV_strs]; exact q _ (.bl _)
theorem ro_inLI {neg : Bool} {s : Int} {xs : List Int} : RO (rIn K neg) (.int s) (.lst (xs.map .int)) (.bl (notB neg (decide (s ∈ xs)))) := ro_val fun G v w hv hw H e Q q => by
  cases hv
  cases hw with
  | lst h r =>
    obtain rfl := r.ints
    refine ⟨_, _, rfl, .inl (sqL_of e h), rfl, flat_ints' xs, ?_⟩
    rw [inV_ints]; exact q _ (.bl _)
/-! calls of built-ins by data -/
def RB (r : List V → Hp → VK → Prop) (ds : List D) (z : D) : Prop := ∀ G vs, Rps G ds vs → ∀ H, Ex G H → ∀ Q : VK, (∀ v G' H', Gr N0 G H G' H' → Rp G' z v → Q v H') → r vs H Q
theorem gd_cb {r : List V → Hp → VK → Prop} (h : GA tr σ G ds) (hr : RB r ds z) : GD (tCB r tr) σ G z := fun H e Q q =>
  h H e _ fun vs G1 H1 g1 r1 => hr G1 vs r1 H1 g1.gh Q fun v G2 H2 g2 r2 => q v G2 H2 (g1.trans g2) r2
theorem rb_all {bs : List Bool} : RB (rAll K) [.lst (bs.map .bl)] (.bl (bs.all id)) := fun G vs h H e Q q => by
  cases h with
  | cons h t =>
    cases t
    cases h with
    | lst h r =>
      obtain rfl := r.bls
      exact ⟨_, bs, rfl, sqL_of e h, q _ G H (.refl e) (.bl _)⟩
theorem rb_any {bs : List Bool} : RB (rAny K) [.lst (bs.map .bl)] (.bl (bs.any id)) := fun G vs h H e Q q => by
  cases h with
  | cons h t =>
    cases t
    cases h with
    | lst h r =>
      obtain rfl := r.bls
      exact ⟨_, bs, rfl, sqL_of e h, q _ G H (.refl e) (.bl _)⟩
def rLenU (K : PySem.W.Frag) : List V → Hp → VK → Prop := fun xs H Q => ∃ p ys, xs = [.ref p] ∧ (SqL K H p ys ∨ SqT K H p ys) ∧ Q (.int ys.length) H
theorem rb_lenT : RB (rLenU K) [.tup ds] (.int ds.length) := fun G vs h H e Q q => by
  cases h with
  | cons h t =>
    cases t
    cases h with
    | tup h r => exact ⟨_, _, rfl, .inr (sqT_of e h), q _ G H (.refl e) (by rw [← r.len]; exact .int _)⟩
theorem rb_lenL : RB (rLenU K) [.lst ds] (.int ds.length) := fun G vs h H e Q q => by
  cases h with
  | cons h t =>
    cases t
    cases h with
    | lst h r => exact ⟨_, _, rfl, .inl (sqL_of e h), q _ G H (.refl e) (by rw [← r.len]; exact .int _)⟩
def rTupU (K : PySem.W.Frag) : List V → Hp → VK → Prop := fun xs H Q => ∃ p ys, xs = [.ref p] ∧ ((SqL K H p ys ∧ ∀ l, H l = none → Q (.ref l) (upd H l (.tup ys))) ∨ (SqT K H p ys ∧ Q (.ref p) H))
theorem rb_tupL : RB (rTupU K) [.lst ds] (.tup ds) := fun G vs h H e Q q => by
  cases h with
  | cons h t =>
    cases t
    cases h with
    | lst h r => exact ⟨_, _, rfl, .inl ⟨sqL_of e h, fun l hl => q _ _ _ ((Gr.refl e).data hl) (.tup upd_same (r.mono (Ex.new (e.free hl))))⟩⟩
theorem rb_tupT : RB (rTupU K) [.tup ds] (.tup ds) := fun G vs h H e Q q => by
  cases h with
  | cons h t =>
    cases t
    cases h with
    | tup h r => exact ⟨_, _, rfl, .inr ⟨sqT_of e h, q _ _ _ (Gr.refl e) (.tup h r)⟩⟩
def rLstU (K : PySem.W.Frag) : List V → Hp → VK → Prop := fun xs H Q => ∃ p ys, xs = [.ref p] ∧ (SqL K H p ys ∨ SqT K H p ys) ∧ ∀ l, H l = none → Q (.ref l) (upd H l (.lst ys))
end
end Up

/-! text Up2 -/
set_option Elab.async false
set_option linter.all false
set_option maxRecDepth 100000
set_option maxHeartbeats 2000000
/-! walks over data, loops, comprehensions, statements -/
namespace Up
open PySem PySem.Spec PyProof.Rows L2

/-- a walk gives the data ds, one by one -/
structure DW (J : It) (G1 : Hp) (ds : List D) : Prop where
  goes : ∀ i H, i < ds.length → Ex G1 H → J.go i H
  stops : ∀ H, Ex G1 H → J.stop ds.length H
  yields : ∀ i H v H', i < ds.length → Ex G1 H → J.yld i H v H' → ∀ G d, Ex G1 G → Ex G H → ds[i]? = some d → ∃ G', Gr N0 G H G' H' ∧ Rp G' d v
def GI (wi : TI) (σ : L2.St) (G : Hp) (ds : List D) : Prop := ∀ H, Ex G H → ∀ R : It → Hp → Prop, (∀ J G1 H1, Gr N0 G H G1 H1 → DW J G1 ds → R J H1) → wi σ H R
section
variable {K : PySem.W.Frag} {σ : L2.St} {G G1 : Hp} {tl : TE} {ta : TA} {wi : TI} {ds : List D}
theorem GI.mono (h : GI wi σ G ds) (e : Ex G G1) : GI wi σ G1 ds := fun H x R q => h H (e.trans x) R fun J G2 H2 g w => by
  obtain ⟨a, c⟩ := g.up e x
  exact q J _ H2 a ⟨fun i H hi z => w.goes i H hi (c.trans z), fun H z => w.stops H (c.trans z), fun i H v H' hi z y G d e1 e2 hd => w.yields i H v H' hi (c.trans z) y G d (c.trans e1) e2 hd⟩
theorem gi_tup (h : GD tl σ G (.tup ds)) : GI (iTup K tl) σ G ds := fun H e R q => h H e _ fun v G1 H1 g r => by
  cases r with
  | @tup a vs _ ha rs =>
    have hl := rs.len
    refine ⟨_, rfl, ⟨_, sqT_of g.gh ha⟩, q _ _ _ g ⟨fun i H hi z => ?_, fun H z => ?_, fun i H v H' hi z y G d e1 e2 hd => ?_⟩⟩
    · have hi' : i < vs.length := by omega
      exact ⟨vs, vs[i], sqT_of z ha, by simp [hi']⟩
    · exact ⟨vs, sqT_of z ha, by omega⟩
    · obtain ⟨rfl, y⟩ := y
      have hx := y vs (sqT_of z ha)
      obtain ⟨d', h1, h2⟩ := rs.get hx
      rw [hd] at h1; cases h1
      exact ⟨G, .refl e2, h2.mono e1⟩
theorem gi_lst (h : GD tl σ G (.lst ds)) : GI (iList K tl) σ G ds := fun H e R q => h H e _ fun v G1 H1 g r => by
  cases r with
  | @lst a vs _ ha rs =>
    have hl := rs.len
    refine ⟨_, rfl, ⟨_, sqL_of g.gh ha⟩, q _ _ _ g ⟨fun i H hi z => ?_, fun H z => ?_, fun i H v H' hi z y G d e1 e2 hd => ?_⟩⟩
    · have hi' : i < vs.length := by omega
      exact ⟨vs, vs[i], sqL_of z ha, by simp [hi']⟩
    · exact ⟨vs, sqL_of z ha, by omega⟩
    · obtain ⟨rfl, y⟩ := y
      have hx := y vs (sqL_of z ha)
      obtain ⟨d', h1, h2⟩ := rs.get hx
      rw [hd] at h1; cases h1
      exact ⟨G, .refl e2, h2.mono e1⟩
/-- list or tuple -/
def iSeq (K : PySem.W.Frag) (tl : TE) : TI := fun σ H R => iTup K tl σ H R ∨ iList K tl σ H R
theorem gi_seqT (h : GD tl σ G (.tup ds)) : GI (iSeq K tl) σ G ds := fun H e R q => .inl (gi_tup h H e R q)
theorem gi_seqF (h : GD tl σ G (.ftup ds)) : GI (iSeq K tl) σ G ds := fun H e R q => .inl (h H e _ fun v G1 H1 g r => by
  cases r with
  | @ftup a o vs _ ha od rs =>
    have hl := rs.len
    have sq : ∀ H, Ex G1 H → SqT K H a vs := fun H z => .inl (.inr ⟨o, z _ _ ha⟩)
    refine ⟨_, rfl, ⟨_, sq _ g.gh⟩, q _ _ _ g ⟨fun i H hi z => ?_, fun H z => ?_, fun i H v H' hi z y G d e1 e2 hd => ?_⟩⟩
    · have hi' : i < vs.length := by omega
      exact ⟨vs, vs[i], sq _ z, by simp [hi']⟩
    · exact ⟨vs, sq _ z, by omega⟩
    · obtain ⟨rfl, y⟩ := y
      have hx := y vs (sq _ z)
      obtain ⟨d', h1, h2⟩ := rs.get hx
      rw [hd] at h1; cases h1
      exact ⟨G, .refl e2, h2.mono e1⟩)
theorem gi_seqL (h : GD tl σ G (.lst ds)) : GI (iSeq K tl) σ G ds := fun H e R q => .inr (gi_lst h H e R q)
def rangeD (n : Nat) : List D := (List.range n).map fun (i : Nat) => D.int (i : Int)
theorem gi_range {n : Int} (h : GA ta σ G [.int n]) (h0 : -(2 ^ 62) ≤ n) (h1 : n < 2 ^ 62) : GI (iRng1 ta) σ G (rangeD n.toNat) := fun H e R q => h H e _ fun vs G1 H1 g r => by
  cases r with
  | cons r t =>
    cases t
    cases r
    have hl : (rangeD n.toNat).length = n.toNat := by simp [rangeD]
    refine ⟨n, rfl, h0, h1, q _ _ _ g ⟨fun i H hi z => by rw [hl] at hi; exact hi, fun H z => by rw [hl]; exact Nat.le_refl _, fun i H v H' hi z y G d e1 e2 hd => ?_⟩⟩
    obtain ⟨rfl, rfl⟩ := y
    rw [hl] at hi
    have : d = .int (i : Int) := by
      unfold rangeD at hd
      rw [List.getElem?_map, List.getElem?_range hi] at hd
      exact (Option.some.inj hd).symm
    subst this
    refine ⟨G, .refl e2, ?_⟩
    rw [show (0 : Int) + (i : Int) = (i : Int) from Int.zero_add _]
    exact .int _
/-- a text's signs -/
theorem gi_str {z : Str} {te : TE} (h : GD te σ G (.str z)) : GI (iStr te) σ G (z.cps.toList.map fun c => D.str ⟨#[c]⟩) := fun H e R q => h H e _ fun v G1 H1 g r => by
  cases r
  have hl : (z.cps.toList.map fun c => D.str ⟨#[c]⟩).length = z.cps.size := by simp
  refine ⟨z, rfl, q _ _ _ g ⟨fun i H hi _ => by rw [hl] at hi; exact hi, fun H _ => by rw [hl]; exact Nat.le_refl _, fun i H v H' hi _ y G d e1 e2 hd => ?_⟩⟩
  obtain ⟨rfl, c, hc, rfl⟩ := y
  have : d = .str ⟨#[c]⟩ := by
    rw [List.getElem?_map, Array.getElem?_toList, hc] at hd
    exact (Option.some.inj hd).symm
  subst this
  exact ⟨G, .refl e2, .str _⟩
end

/-! ### loops -/
section
variable {K : PySem.W.Frag} {σ : L2.St} {G H : Hp} {wi : TI} {ds : List D} {g : TG} {tb : TS} {En : Ends}
theorem sd_for (h : GI wi σ G ds) (e : Ex G H)
    (k : ∀ G1 H1, Gr N0 G H G1 H1 → ∃ Pv : Nat → L2.St → Hp → Hp → Prop, Pv 0 σ G1 H1 ∧ (∀ i σ' G' H', Pv i σ' G' H' → Ex G1 G' ∧ Ex G' H') ∧
      (∀ i d σ' G' H' v G2 H2, ds[i]? = some d → Pv i σ' G' H' → Gr N0 G' H' G2 H2 → Rp G2 d v →
        g v σ' H2 fun σ3 H3 => tb { En with nx := fun σ H => ∃ G, Pv (i + 1) σ G H, ct := fun σ H => ∃ G, Pv (i + 1) σ G H, bk := En.nx } σ3 H3) ∧
      ∀ σ' G' H', Pv ds.length σ' G' H' → En.nx σ' H') : tFor wi g tb En σ H := h H e _ fun J G1 H1 gr w => by
  obtain ⟨Pv, p0, pe, ps, pd⟩ := k G1 H1 gr
  refine for_it (n := ds.length) (G := fun H => Ex G1 H) (Y := fun i H v H' => ∀ G d, Ex G1 G → Ex G H → ds[i]? = some d → ∃ G', Gr N0 G H G' H' ∧ Rp G' d v)
    ⟨w.goes, w.stops, fun i H v H' hi z y => w.yields i H v H' hi z y⟩ (fun i σ H => ∃ G, Pv i σ G H) ⟨G1, p0⟩ (fun i σ H _ ⟨G, p⟩ => let ⟨a, b⟩ := pe i σ G H p; a.trans b) (fun i x σ H H' hi ⟨G, p⟩ y => ?_) (fun σ H ⟨G, p⟩ => pd σ G H p)
  obtain ⟨a, b⟩ := pe i σ G H p
  obtain ⟨d, hd⟩ : ∃ d, ds[i]? = some d := ⟨_, List.getElem?_eq_getElem hi⟩
  obtain ⟨G', g1, r1⟩ := y G d a b hd
  exact ps i d σ G H x G' H' hd p g1 r1
end

/-! ### targets -/
section
variable {K : PySem.W.Frag} {σ : L2.St} {G H : Hp} {Q : L2.St → Hp → Prop}
theorem tg_tup2 {i j : Nat} {x y : D} {v : V} (r : Rp G (.tup [x, y]) v) (e : Ex G H) (k : ∀ a b, Rp G x a → Rp G y b → Q ((σ.set i (some a)).set j (some b)) H) : gTup K 2 (gCons (gName i) (gCons (gName j) gNil)) v σ H Q := by
  cases r with
  | tup h r =>
    cases r with
    | cons r1 t =>
      cases t with
      | cons r2 t =>
        cases t
        exact ⟨_, _, rfl, sqT_of e h, rfl, _, _, rfl, _, _, rfl, rfl, k _ _ r1 r2⟩
theorem tg_lst2 {i j : Nat} {x y : D} {v : V} (r : Rp G (.lst [x, y]) v) (e : Ex G H) (k : ∀ a b, Rp G x a → Rp G y b → Q ((σ.set i (some a)).set j (some b)) H) : gLst K 2 (gCons (gName i) (gCons (gName j) gNil)) v σ H Q := by
  cases r with
  | lst h r =>
    cases r with
    | cons r1 t =>
      cases t with
      | cons r2 t =>
        cases t
        exact ⟨_, _, rfl, sqL_of e h, rfl, _, _, rfl, _, _, rfl, rfl, k _ _ r1 r2⟩
/-- a pair, tuple or list -/
def gPair (K : PySem.W.Frag) (t : TGs) : TG := fun v σ H Q => gTup K 2 t v σ H Q ∨ gLst K 2 t v σ H Q
end

/-! ### comprehensions -/
section
variable {K : PySem.W.Frag} {σ : L2.St} {G : Hp} {wi : TI} {g : TG} {tt : TT} {te tk : TE} {vs : List Nat} {α : Type}
theorem take_next' {α : Type} {l : List α} {i : Nat} {x : α} (h : l[i]? = some x) : l.take (i + 1) = l.take i ++ [x] := by
  rw [List.take_succ, h]; rfl
theorem gl_lc {xs : List α} {e : α → D} {p : α → Bool} {f : α → D} (h : GI wi σ G (xs.map e)) (hl : xs.length ≤ 90000)
    (hs : ∀ x ∈ xs, ∀ G' H' v, Ex G G' → Ex G' H' → Rp G' (e x) v → ∀ Q : L2.St → Hp → Prop, (∀ σ2, wipe σ2 vs = wipe σ vs → GT tt σ2 G' (p x) → (p x = true → GD te σ2 G' (f x)) → Q σ2 H') → g v (wipe σ vs) H' Q) :
    GL (tLc wi g tt te vs) σ G ((xs.filter p).map f) := fun H eH Q q => h H eH _ fun J G1 H1 gr w => by
  intro A hA
  have gA := gr.gh.free hA
  refine lc_it (n := xs.length) (G := fun H => Ex G1 H) (Y := fun i H v H' => ∀ G d, Ex G1 G → Ex G H → (xs.map e)[i]? = some d → ∃ G', Gr N0 G H G' H' ∧ Rp G' d v)
    ⟨fun i H hi z => w.goes i H (by rw [List.length_map]; exact hi) z, fun H z => by have := w.stops H z; rw [List.length_map] at this; exact this, fun i H v H' hi z y => w.yields i H v H' (by rw [List.length_map]; exact hi) z y⟩
    (fun i H' => ∃ G' ws, Gr N0 G1 H1 G' H' ∧ G' A = none ∧ H' A = some (.lst ws) ∧ Rps G' (((xs.take i).filter p).map f) ws)
    ⟨G1, [], (Gr.refl gr.gh).put (.inl hA) gA, gA, upd_same, .nil⟩ (fun i H _ ⟨G', ws, g', _⟩ => g'.gg.trans g'.gh) (fun i v H' H2 hi ⟨G', ws, g', n', a', r'⟩ y => ?_) (fun H' ⟨G', ws, g', n', a', r'⟩ => ?_)
  · obtain ⟨x, hx⟩ : ∃ x, xs[i]? = some x := ⟨_, List.getElem?_eq_getElem hi⟩
    obtain ⟨G2, g2, r2⟩ := y G' (e x) g'.gg g'.gh (by rw [List.getElem?_map, hx]; rfl)
    have n2 := g2.off n' a'
    have a2 := g2.at0 a'
    have g12 := g'.trans g2
    have tk := take_next' hx
    refine hs x (List.mem_of_getElem? hx) G2 H2 v (gr.gg.trans (g'.gg.trans g2.gg)) g2.gh r2 _ fun σ2 hw ht he => ⟨hw, ht H2 g2.gh _ fun G3 H3 g3 => ?_⟩
    have n3 := g3.off n2 a2
    have a3 := g3.at0 a2
    cases hp : p x with
    | true =>
      refine iteT (((he hp).mono g3.gg) H3 g3.gh _ fun y G4 H4 g4 r4 => ⟨ws, g4.at0 a3, ?_, G4, ws ++ [y], ?_, g4.off n3 a3, upd_same, ?_⟩)
      · refine sz_lt ?_
        rw [← r'.len, List.length_map]
        have := List.length_filter_le p (xs.take i)
        rw [List.length_take] at this
        omega
      · exact (g12.trans (g3.trans g4)).put (.inl hA) (g4.off n3 a3)
      · rw [tk, List.filter_append, List.map_append]
        have : [x].filter p = [x] := by simp [hp]
        rw [this]
        exact (r'.mono (g2.gg.trans (g3.gg.trans g4.gg))).append (.one r4)
    | false =>
      refine iteF ⟨G3, ws, g12.trans g3, n3, a3, ?_⟩
      rw [tk, List.filter_append, List.map_append]
      have : [x].filter p = [] := by simp [hp]
      rw [this, List.map_nil, List.append_nil]
      exact r'.mono (g2.gg.trans g3.gg)
  · rw [List.take_length] at r'
    exact q A ws G' H' (gr.trans g') (gr.free hA) n' a' r'

/-- a name for the target -/
theorem gl_lc1 {j : Nat} {xs : List α} {e : α → D} {p : α → Bool} {f : α → D} (h : GI wi σ G (xs.map e)) (hl : xs.length ≤ 90000) (hw : ∀ v, wipe ((wipe σ vs).set j (some v)) vs = wipe σ vs)
    (ht : ∀ x ∈ xs, ∀ G' v, Ex G G' → Rp G' (e x) v → GT tt ((wipe σ vs).set j (some v)) G' (p x))
    (he : ∀ x ∈ xs, p x = true → ∀ G' v, Ex G G' → Rp G' (e x) v → GD te ((wipe σ vs).set j (some v)) G' (f x)) :
    GL (tLc wi (gName j) tt te vs) σ G ((xs.filter p).map f) :=
  gl_lc h hl fun x hx G' H' v e1 _ r Q q => q _ (hw v) (ht x hx G' v e1 r) fun hp => he x hx hp G' v e1 r
/-- .. and no test -/
theorem gl_lc0 {j : Nat} {xs : List α} {e : α → D} {f : α → D} (h : GI wi σ G (xs.map e)) (hl : xs.length ≤ 90000) (hw : ∀ v, wipe ((wipe σ vs).set j (some v)) vs = wipe σ vs)
    (he : ∀ x ∈ xs, ∀ G' v, Ex G G' → Rp G' (e x) v → GD te ((wipe σ vs).set j (some v)) G' (f x)) :
    GL (tLc wi (gName j) tYes te vs) σ G (xs.map f) := by
  have q := gl_lc1 (tt := tYes) (p := fun _ => true) (f := f) h hl hw (fun x _ G' v _ _ H e Q q => q G' H (.refl e)) (fun x hx _ => he x hx)
  rw [List.filter_eq_self.mpr (fun _ _ => rfl)] at q
  exact q

/-! dict comprehensions: every key is new -/
theorem gd_dc {xs : List α} {e : α → D} {ky : α → Key} {f : α → D} (h : GI wi σ G (xs.map e)) (hl : xs.length ≤ 90000) (nd : (xs.map ky).Nodup)
    (hs : ∀ x ∈ xs, ∀ G' H' v, Ex G G' → Ex G' H' → Rp G' (e x) v → ∀ Q : L2.St → Hp → Prop, (∀ σ2, wipe σ2 vs = wipe σ vs → (∀ H, Ex G' H → ∀ Q : VK, (∀ G2 H2, Gr N0 G' H G2 H2 → Q (kV (ky x)) H2) → tk σ2 H Q) → GD te σ2 G' (f x) → Q σ2 H') → g v (wipe σ vs) H' Q) :
    GD (tDc wi g tYes tk te vs) σ G (.dk (xs.map fun x => (ky x, f x))) := fun H eH Q q => h H eH _ fun J G1 H1 gr w => by
  intro A hA
  have gA := gr.gh.free hA
  have W : ∀ Pv : Nat → Hp → Prop, Pv 0 (upd H1 A (.dK [])) → (∀ i H, i ≤ xs.length → Pv i H → Ex G1 H) →
      (∀ i v H H', i < xs.length → Pv i H → (∀ G d, Ex G1 G → Ex G H → (xs.map e)[i]? = some d → ∃ G', Gr N0 G H G' H' ∧ Rp G' d v) → g v (wipe σ vs) H' fun σ2 H2 => wipe σ2 vs = wipe σ vs ∧ tYes σ2 H2 fun b H3 =>
        if b = true then tk σ2 H3 fun y H4 => te σ2 H4 fun z H5 => ∃ kvs k, y = kV k ∧ H5 A = some (.dK kvs) ∧ kvs.length < sizeLine ∧ Pv (i + 1) (upd H5 A (.dK (putK kvs k z))) else Pv (i + 1) H3) →
      (∀ H, Pv xs.length H → Q (.ref A) H) → ∃ W : Nat → Nat → Hp → Prop, (∃ m, W 0 m (upd H1 A (.dK []))) ∧ ∀ i m H, W i m H →
        (J.stop i H ∧ Q (.ref A) H) ∨ (J.go i H ∧ ∃ Nx : Hp → Prop, (∀ H', Nx H' → ∃ m', m' < m ∧ W (i + 1) m' H') ∧ ∀ x H', J.yld i H x H' → g x (wipe σ vs) H' fun σ2 H2 => wipe σ2 vs = wipe σ vs ∧ tYes σ2 H2 fun b H3 =>
          if b = true then tk σ2 H3 fun y H4 => te σ2 H4 fun z H5 => ∃ kvs k, y = kV k ∧ H5 A = some (.dK kvs) ∧ kvs.length < sizeLine ∧ Nx (upd H5 A (.dK (putK kvs k z))) else Nx H3) := by
    intro Pv h0 hG hs' hd
    have wl : (xs.map e).length = xs.length := List.length_map ..
    refine ⟨fun i m H => m = xs.length - i ∧ i ≤ xs.length ∧ Pv i H, ⟨xs.length, by simp, Nat.zero_le _, h0⟩, ?_⟩
    rintro i m H ⟨rfl, hi, p⟩
    have q := hG i H hi p
    by_cases hlt : i < xs.length
    · refine .inr ⟨w.goes i H (by rw [wl]; exact hlt) q, Pv (i + 1), fun H' p' => ⟨xs.length - (i + 1), by omega, rfl, hlt, p'⟩, fun x H' y => hs' i x H H' hlt p (w.yields i H x H' (by rw [wl]; exact hlt) q y)⟩
    · have e : i = xs.length := by omega
      subst e
      exact .inl ⟨by have := w.stops H q; rw [wl] at this; exact this, hd H p⟩
  refine W (fun i H' => ∃ G' ws, Gr N0 G1 H1 G' H' ∧ G' A = none ∧ H' A = some (.dK ws) ∧ Rpk G' ((xs.take i).map fun x => (ky x, f x)) ws)
    ⟨G1, [], (Gr.refl gr.gh).put (.inl hA) gA, gA, upd_same, .nil⟩ (fun i H _ ⟨G', ws, g', _⟩ => g'.gg.trans g'.gh) (fun i v H' H2 hi ⟨G', ws, g', n', a', r'⟩ y => ?_) (fun H' ⟨G', ws, g', n', a', r'⟩ => ?_)
  · obtain ⟨x, hx⟩ : ∃ x, xs[i]? = some x := ⟨_, List.getElem?_eq_getElem hi⟩
    obtain ⟨G2, g2, r2⟩ := y G' (e x) g'.gg g'.gh (by rw [List.getElem?_map, hx]; rfl)
    have n2 := g2.off n' a'
    have a2 := g2.at0 a'
    have g12 := g'.trans g2
    have tk' := take_next' hx
    refine hs x (List.mem_of_getElem? hx) G2 H2 v (gr.gg.trans (g'.gg.trans g2.gg)) g2.gh r2 _ fun σ2 hw hk he => ⟨hw, ?_⟩
    unfold tYes
    dsimp only
    rw [if_pos rfl]
    refine (hk H2 g2.gh _ fun G3 H3 g3 => ?_)
    have n3 := g3.off n2 a2
    have a3 := g3.at0 a2
    refine (he.mono g3.gg) H3 g3.gh _ fun y G4 H4 g4 r4 => ⟨ws, ky x, rfl, g4.at0 a3, ?_, G4, ws ++ [(ky x, y)], ?_, g4.off n3 a3, ?_, ?_⟩
    · refine sz_lt ?_
      rw [← r'.len, List.length_map, List.length_take]
      omega
    · exact (g12.trans (g3.trans g4)).put (.inl hA) (g4.off n3 a3)
    · have hv : valV ws (ky x) = none := by
        have key : ∀ (l : List α) (ws : List (Key × V)) (G : Hp), Rpk G (l.map fun x => (ky x, f x)) ws → ky x ∉ l.map ky → valV ws (ky x) = none := by
          intro l
          induction l with
          | nil => intro ws G h _; cases h; rfl
          | cons a l ih =>
            intro ws G h hn
            cases h with
            | cons h r =>
              have h1 : ¬ ky a = ky x := fun e => hn (by rw [List.map_cons, e]; exact List.mem_cons_self)
              rw [valV_neg h1]
              exact ih _ G r fun z => hn (by rw [List.map_cons]; exact List.mem_cons_of_mem _ z)
        refine key _ ws G' r' fun z => ?_
        rw [List.map_take] at z
        have nd' : (xs.map ky)[i]? = some (ky x) := by rw [List.getElem?_map, hx]; rfl
        obtain ⟨j, hj, ej⟩ := List.mem_take_iff_getElem.mp z
        obtain ⟨hi', ei⟩ := List.getElem?_eq_some_iff.mp nd'
        have := (List.getElem_inj nd).mp (ej.trans ei.symm)
        omega
      rw [putK_new _ hv]; exact upd_same
    · rw [tk', List.map_append]
      have : ∀ {l : List (Key × D)} {ws : List (Key × V)} {k : Key} {d : D} {v : V} {G : Hp}, Rpk G l ws → Rp G d v → Rpk G (l ++ [(k, d)]) (ws ++ [(k, v)]) := by
        intro l
        induction l with
        | nil => intro ws k d v G h r; cases h; exact .cons r .nil
        | cons a l ih => intro ws k d v G h r; cases h with | cons h t => exact .cons h (ih t r)
      exact this (r'.mono (g2.gg.trans (g3.gg.trans g4.gg))) r4
  · rw [List.take_length] at r'
    exact q _ _ _ ((gr.trans g').seal (gr.free hA) a') (.dk upd_same (r'.mono (Ex.new n')))
end

/-! ### statements -/
section
variable {K : PySem.W.Frag} {σ : L2.St} {G H : Hp} {te ta tb : TE} {tt : TT} {tu tw tz : TS} {En : Ends} {d : D} {ds : List D}
theorem sq_asg {i : Nat} (h : GD te σ G d) (e : Ex G H) (k : ∀ v G' H', Gr N0 G H G' H' → Rp G' d v → tz En (σ.set i (some v)) H') : tSeq (tAsg te (gName i)) tz En σ H := h H e _ k
theorem s_asg {i : Nat} (h : GD te σ G d) (e : Ex G H) (k : ∀ v G' H', Gr N0 G H G' H' → Rp G' d v → En.nx (σ.set i (some v)) H') : tAsg te (gName i) En σ H := h H e _ k
theorem sq_asgL {i : Nat} (h : GL te σ G ds) (e : Ex G H) (k : ∀ p vs G' H', Gr N0 G H G' H' → H p = none → G' p = none → H' p = some (.lst vs) → Rps G' ds vs → tz En (σ.set i (some (.ref p))) H') : tSeq (tAsg te (gName i)) tz En σ H := h H e _ k
theorem sq_if {b : Bool} (h : GT tt σ G b) (e : Ex G H) (h1 : b = true → ∀ G' H', Gr N0 G H G' H' → tu { En with nx := tz En } σ H') (h2 : b = false → ∀ G' H', Gr N0 G H G' H' → tw { En with nx := tz En } σ H') : tSeq (tIfS tt tu tw) tz En σ H := h H e _ fun G' H' g => by
  cases b with
  | true => exact iteT (h1 rfl G' H' g)
  | false => exact iteF (h2 rfl G' H' g)
theorem s_if {b : Bool} (h : GT tt σ G b) (e : Ex G H) (h1 : b = true → ∀ G' H', Gr N0 G H G' H' → tu En σ H') (h2 : b = false → ∀ G' H', Gr N0 G H G' H' → tw En σ H') : tIfS tt tu tw En σ H := h H e _ fun G' H' g => by
  cases b with
  | true => exact iteT (h1 rfl G' H' g)
  | false => exact iteF (h2 rfl G' H' g)
/-- a while, by a measure -/
theorem s_while (W : Nat → L2.St → Hp → Hp → Prop) {n : Nat} (h0 : W n σ G H)
    (hs : ∀ m σ' G' H', W m σ' G' H' → ∃ b, Ex G' H' ∧ GT tt σ' G' b ∧ (b = true → ∀ G2 H2, Gr N0 G' H' G2 H2 → tu { En with nx := fun σ H => ∃ m' G, m' < m ∧ W m' σ G H, ct := fun σ H => ∃ m' G, m' < m ∧ W m' σ G H, bk := En.nx } σ' H2) ∧
      (b = false → ∀ G2 H2, Gr N0 G' H' G2 H2 → En.nx σ' H2)) : tWhile tt tu En σ H := by
  refine ⟨fun m σ H => ∃ G, W m σ G H, ⟨n, G, h0⟩, ?_⟩
  rintro m σ' H' ⟨G', w⟩
  obtain ⟨b, e, ht, h1, h2⟩ := hs m σ' G' H' w
  refine ht H' e _ fun G2 H2 g2 => ?_
  cases b with
  | true => exact iteT ⟨_, fun σ' H' ⟨m', G, hm, w⟩ => ⟨m', hm, G, w⟩, h1 rfl G2 H2 g2⟩
  | false => exact iteF (h2 rfl G2 H2 g2)
end

/-! ### promises by data -/
/-- from data to data, nothing changed: F says which datum comes of which -/
def spD (n : Nat) (F : List D → D → Prop) : Sp := fun vs H Q _ => vs.length = n ∧ ∃ ds d G, Ex G H ∧ Rps G ds vs ∧ F ds d ∧ ∀ v G' H', Gr N0 G H G' H' → Rp G' d v → Q v H'
theorem gd_call {σ : L2.St} {G : Hp} {ta : TA} {ds : List D} {d : D} {n : Nat} {F : List D → D → Prop} {E : XK} (h : GA ta σ G ds) (hn : ds.length = n) (hF : F ds d) : GD (tCall (spD n F) [] E ta) σ G d := fun H e Q q =>
  h H e _ fun vs G1 H1 g r => by
    rw [List.append_nil]
    exact ⟨by rw [← r.len]; exact hn, ds, d, G1, g.gh, r, hF, fun v G2 H2 g2 r2 => q v G2 H2 (g.trans g2) r2⟩

/-! ### readings that may be one or the other -/
theorem PI_or {X : Cx} {tg it : Expr} {w1 w2 : TI} (h1 : PI X tg it w1) (h2 : PI X tg it w2) : PI X tg it (fun σ H R => w1 σ H R ∨ w2 σ H R) :=
  ⟨fun pins s σ H R I h => h.elim (h1.run pins s σ H R I) (h2.run pins s σ H R I)⟩
theorem PE_or {X : Cx} {e : Expr} {t1 t2 : TE} (h1 : PE X e t1) (h2 : PE X e t2) : PE X e (fun σ H Q => t1 σ H Q ∨ t2 σ H Q) :=
  ⟨fun pins s σ H Q I h => h.elim (h1.run pins s σ H Q I) (h2.run pins s σ H Q I)⟩
theorem PG_or {X : Cx} {tg : Expr} {g1 g2 : TG} (h1 : PG X tg g1) (h2 : PG X tg g2) : PG X tg (fun v σ H Q => g1 v σ H Q ∨ g2 v σ H Q) :=
  ⟨fun pins s σ H v u Q I r h => h.elim (h1.run pins s σ H v u Q I r) (h2.run pins s σ H v u Q I r)⟩
theorem pi_seq {X : Cx} {tg l : Expr} {tl : TE} (h : PE X l tl) : PI X tg l (iSeq X.K tl) := PI_or (pi_tup h) (pi_list h)
theorem pg_pair {X : Cx} {es : List Expr} {k : Nat} {t : TGs} {pos : Pos} (hc : X.calm = true) (h : PGs X es t) (hn : (assignEach es X.env).length = 2 := by rfl) (hst : (assignEach es X.env).findIdx? (·.1) = none := by rfl) :
    PG X (.Tuple es k pos) (gPair X.K t) := PG_or (pg_tup hc h hn hst) (pg_lst hc h hn hst)
end Up

/-! text UpK -/
set_option Elab.async false
set_option linter.all false
set_option maxRecDepth 100000
set_option maxHeartbeats 2000000
/-! the rules with the written part given by name -/
namespace Up
open PySem PySem.Spec PyProof.Rows L2
section
variable {X : Cx} (K : PySem.W.Frag)
theorem k_in (hK : X.K = K := by rfl) : OpR X (compareOp .In) (rIn K false) := hK ▸ op_in_seq
theorem k_notIn (hK : X.K = K := by rfl) : OpR X (compareOp .NotIn) (rIn K true) := hK ▸ op_notIn_seq
theorem k_all (hK : X.K = K := by rfl) (hc : X.calm = true := by rfl) : CallR X (.builtin "all") (rAll K) := hK ▸ cr_all hc
theorem k_any (hK : X.K = K := by rfl) (hc : X.calm = true := by rfl) : CallR X (.builtin "any") (rAny K) := hK ▸ cr_any hc
theorem k_len (hK : X.K = K := by rfl) : CallR X (.builtin "len") (rLenU K) := hK ▸ call_len_seq
theorem k_tuple (hK : X.K = K := by rfl) : CallR X (.type "tuple") (rTupU K) := hK ▸ call_tuple_of
theorem k_list (hK : X.K = K := by rfl) : CallR X (.type "list") (rLstU K) := hK ▸ call_list_of
theorem k_ixL (hK : X.K = K := by rfl) : IxR X (rIxL K) := hK ▸ ix_list
theorem k_ixT (hK : X.K = K := by rfl) : IxR X (rIxT K) := hK ▸ ix_tup
theorem k_slL (hK : X.K = K := by rfl) : SlR X (rSlL K) := hK ▸ sl_list
theorem k_slT (hK : X.K = K := by rfl) : SlR X (rSlT K) := hK ▸ sl_tup
theorem k_seq {tg l : Expr} {tl : TE} (h : PE X l tl) (hK : X.K = K := by rfl) : PI X tg l (iSeq K tl) := hK ▸ pi_seq h
theorem k_pair {es : List Expr} {k : Nat} {t : TGs} {pos : Pos} (h : PGs X es t) (hK : X.K = K := by rfl) (hc : X.calm = true := by rfl) (hn : (assignEach es X.env).length = 2 := by rfl) (hst : (assignEach es X.env).findIdx? (·.1) = none := by rfl) :
    PG X (.Tuple es k pos) (gPair K t) := hK ▸ pg_pair hc h hn hst
theorem k_tup2 {es : List Expr} {k : Nat} {t : TGs} {pos : Pos} (h : PGs X es t) (hK : X.K = K := by rfl) (hc : X.calm = true := by rfl) (hn : (assignEach es X.env).length = 2 := by rfl) (hst : (assignEach es X.env).findIdx? (·.1) = none := by rfl) :
    PG X (.Tuple es k pos) (gTup K 2 t) := hK ▸ pg_tup hc h hn hst
theorem k_eqD (hu : X.A.units + 64 < cLine) (hK : X.K = K := by rfl) : OpR X (compareOp .Eq) (rEqD K) := hK ▸ op_eqD hu
theorem k_neD (hu : X.A.units + 64 < cLine) (hK : X.K = K := by rfl) : OpR X (compareOp .NotEq) (rNeD K) := hK ▸ op_neD hu
end
end Up

/-! text UpSort -/
set_option Elab.async false
set_option linter.all false
set_option maxRecDepth 100000
set_option maxHeartbeats 4000000
/-! sorting tuples of texts, the empty one among them -/
namespace UpS
open PySem PySem.Spec PySem.W PyProof.Rows PySem.SeqAt
abbrev tupP (xs : List Str) : PyData := .tuple (xs.map .str)
theorem alike_strs : ∀ xs ys : List Str, alikeAll (xs.map .str) (ys.map .str) = true
  | [], _ => by simp [alikeAll]
  | _ :: _, [] => by simp [alikeAll]
  | x :: xs, y :: ys => by
    show alikeAll (.str x :: xs.map .str) (.str y :: ys.map .str) = true
    rw [alikeAll, alike_strs xs ys]; simp [alike]
theorem alike_tupP (xs ys : List Str) : alike (tupP xs) (tupP ys) = true := by
  simpa [alike] using alike_strs xs ys
theorem depthAll_strs : ∀ xs : List Str, PyData.depthAll (xs.map .str) = 0
  | [] => by simp [PyData.depthAll]
  | x :: xs => by
    show PyData.depthAll (.str x :: xs.map .str) = 0
    rw [PyData.depthAll, depthAll_strs xs]; simp [PyData.depth]
theorem depth_tupP (xs : List Str) : (tupP xs).depth ≤ 1 := by
  simp [PyData.depth, depthAll_strs]
/-- texts in order -/
def ltS (x y : Str) : Bool := decide (x.cps.toList < y.cps.toList)
/-- tuples of texts in order -/
def ltT : List Str → List Str → Bool
  | [], [] => false
  | [], _ :: _ => true
  | _ :: _, [] => false
  | x :: xs, y :: ys => if x = y then ltT xs ys else ltS x y
theorem dataLt_strs : ∀ xs ys : List Str, PyProof.Rows.lexLt itemOrd (keyToksAll (xs.map .str)) (keyToksAll (ys.map .str)) = ltT xs ys
  | [], [] => by
    have h := rowLt
    show PyProof.Rows.lexLt itemOrd (keyToksAll []) (keyToksAll []) = false
    rfl
  | [], y :: ys => by
    show PyProof.Rows.lexLt itemOrd (keyToksAll []) (keyToksAll (.str y :: ys.map .str)) = true
    rw [toks_all_cons]; rfl
  | x :: xs, [] => by
    show PyProof.Rows.lexLt itemOrd (keyToksAll (.str x :: xs.map .str)) (keyToksAll []) = false
    rw [toks_all_cons]; rfl
  | x :: xs, y :: ys => by
    show PyProof.Rows.lexLt itemOrd (keyToksAll (.str x :: xs.map .str)) (keyToksAll (.str y :: ys.map .str)) = if x = y then ltT xs ys else ltS x y
    have ha : alike (.str x) (.str y) = true := by simp [alike]
    by_cases e : x = y
    · rw [if_pos e, dataLt_all_yes ha (by subst e; simp [PyData.eqv]), dataLt_strs xs ys]
    · rw [if_neg e, dataLt_all_no ha (by simp [PyData.eqv, e]), dataLt_str]; rfl
theorem dataLt_tupP (xs ys : List Str) : dataLt (tupP xs) (tupP ys) = ltT xs ys := by rw [dataLt_tuple, dataLt_strs]

section
variable {prog : Program} {w : World} {A : Around} {E : Value → Shared → Prop} {s : Shared}
/-- tuple < tuple where both are known to be tuples -/
theorem oneLt_tup {xs ys : List PyData} {a b : Value} {as bs : List Addr} {Q : Bool → Shared → Prop} (ra : Reads s.heap a (.tuple xs) as) (rb : Reads s.heap b (.tuple ys) bs) (hal : alikeAll xs ys = true)
    (hu : A.units + min (PyData.tuple xs).depth (PyData.tuple ys).depth < cLine) (hq : Q (dataLt (.tuple xs) (.tuple ys)) s) : wpAny (model prog w) A (oneLt' true a b) Q E s := by
  cases ra with
  | @tuple l o vs n _ as₁ h1 h2 h3 h4 =>
    cases rb with
    | @tuple l' o' vs' n' _ bs₁ k1 k2 k3 k4 =>
      have n1 : vs.size = xs.length := by simpa using SeqAt.ReadsAll.length _ _ _ h4
      have n2 : vs'.size = ys.length := by simpa using SeqAt.ReadsAll.length _ _ _ k4
      rw [dataLt_tuple, ← firstLt_toks xs ys hal, ← n1, ← n2] at hq
      rw [oneLt'_eq]
      simp only [if_true]
      refine wpAny_bind (wpAny_cRoomFor (SeqAt.room_here hu) ?_)
      obtain ⟨cls, dd, data, sl⟩ := o
      obtain ⟨cls2, dd2, data2, sl2⟩ := o'
      simp only at h2 h3 k2 k3
      subst h2 h3 k2 k3
      refine wpAny_bind (wpAny_callSpecialIfBound?_slot (T := "tuple") ⟨_, h1, rfl⟩ F.slot_tuple_lt (call_meets F.slot_tuple_lt ⟨_, h1, rfl⟩ F.entry_tuple_lt (F.args_tuple_lt_2 _ _)
        (tuple_ltAt l l' vs vs' n n' dd dd2 sl sl2 (pairEq xs ys) (fun j => dataLt (xs.getD j .none) (ys.getD j .none))) ⟨h1, k1, fun j j1 j2 => ?_, fun j j1 j2 hj => ?_, ?_⟩))
      · have := eqAt_alikeAll xs ys A.in1 s vs.toList vs'.toList _ _ h4 k4 hal (SeqAt.room_in hu) j (by simpa using j1) (by simpa using j2)
        simpa using this
      · have := rcLt_alikeAll xs ys A.in1 s vs.toList vs'.toList _ _ h4 k4 hal (SeqAt.room_in hu) j (by simpa using j1) (by simpa using j2) hj
        simpa using this
      · exact wpAny_truthy_bool hq

/-- firsts of tuples of texts -/
def firstV (v : Value) (b : List Str) (o : Option Value) : Prop := (o = none ↔ b = [])
theorem first_at {v : Value} {b : List Str} {as : List Addr} {Q : Option Value → Shared → Prop} (r : Reads s.heap v (tupP b) as) (h : ∀ o, (o = none ↔ b = []) → Q o s) : wpAny (model prog w) A (firstOfTuple' v) Q E s := by
  rw [kas_first_eq]
  refine wpAny_bind ((looks_reads r).here ?_)
  rw [if_neg (by show ¬ (Value.type "tuple" != Value.type "tuple") = true; decide)]
  cases r with
  | @tuple a o vs n _ _ h1 h2 h3 h4 =>
    refine wpAny_bind (listItems_at h1 h3 ?_)
    refine wpAny_pure (h _ ?_)
    have hl : vs.size = b.length := by simpa using SeqAt.ReadsAll.length _ _ _ h4
    constructor
    · intro e
      have : vs.size ≤ 0 := Array.getElem?_eq_none_iff.mp e
      exact List.eq_nil_of_length_eq_zero (by omega)
    · rintro rfl
      exact Array.getElem?_eq_none_iff.mpr (by rw [hl]; exact Nat.le_refl _)
theorem mapM_first : ∀ {vs : List Value} {bs : List (List Str)} {Q : List (Option Value) → Shared → Prop}, EachIs (fun v b => ∃ as, Reads s.heap v (tupP b) as) vs bs →
    (∀ os, EachIs (fun o b => o = none ↔ b = []) os bs → Q os s) → wpAny (model prog w) A (vs.mapM firstOfTuple') Q E s
  | [], _, Q, e, h => by cases e; rw [List.mapM_nil]; exact wpAny_pure (h [] .nil)
  | v :: vs, _, Q, e, h => by
    cases e with
    | cons e1 e2 =>
      obtain ⟨as, r⟩ := e1
      rw [List.mapM_cons]
      exact wpAny_bind (first_at r fun o ho => wpAny_bind (mapM_first (Q := fun bs s' => wpAny _ A (pure (o :: bs)) Q E s') e2 fun os hos => wpAny_pure (h _ (.cons ho hos))))
theorem kind_tups {vs : List Value} {bs : List (List Str)} {Q : SortKind → Shared → Prop} (e : EachIs (fun v b => ∃ as, Reads s.heap v (tupP b) as) vs bs) (h2 : 2 ≤ vs.length) (he : [] ∈ bs)
    (h : Q (if bs.head? = some [] then oneType' else general') s) : wpAny (model prog w) A (keyKind' vs.toArray) Q E s := by
  rw [keyKind'_eq, List.mapM_toArray, map_eq_pure_bind]
  refine wpAny_bind (wpAny_bind (mapM_first e fun os hos => wpAny_pure ?_))
  have hn : ¬ (os.toArray.all fun x => x.isSome) = true := by
    intro z
    simp only [List.all_toArray, List.all_eq_true] at z
    have key : ∀ {os : List (Option Value)} {bs : List (List Str)}, EachIs (fun o b => o = none ↔ b = []) os bs → [] ∈ bs → none ∈ os := by
      intro os bs k
      induction k with
      | nil => intro h; cases h
      | cons h t ih =>
        intro hm
        rcases List.mem_cons.mp hm with e | hm
        · rw [h.mpr e.symm]; exact List.mem_cons_self
        · exact List.mem_cons_of_mem _ (ih hm)
    have := z none (key hos he)
    cases this
  rw [if_neg hn]
  obtain ⟨v₁, v₂, rest, rfl⟩ : ∃ v₁ v₂ rest, vs = v₁ :: v₂ :: rest := by
    match vs, h2 with
    | [], h2 => simp at h2
    | [_], h2 => simp at h2
    | v₁ :: v₂ :: rest, _ => exact ⟨v₁, v₂, rest, rfl⟩
  cases hos with
  | nil => cases e
  | @cons o b os' bs' ho ht =>
    by_cases hb : b = []
    · rw [if_pos (by rw [hb]; rfl)] at h
      have ho' := ho.mpr hb
      subst ho'
      rw [if_neg (by simp)]
      rw [oneTypeOnly'_eq, List.mapM_toArray, map_eq_pure_bind]
      have hT : ∀ v ∈ (v₁ :: v₂ :: rest), ∀ (Q' : Value → Shared → Prop), Q' (.type "tuple") s → wpAny (model prog w) A (typeOf v) Q' E s := fun v hv Q' hq => by
        obtain ⟨b, _, as, r⟩ := e.left v hv
        exact (looks_reads r).here hq
      refine wpAny_bind (wpAny_bind (wpAny_bind (kas_mapM (r := .type "tuple") _ hT (wpAny_pure ?_))))
      have hall : ((List.map (fun _ => Value.type "tuple") (v₁ :: v₂ :: rest)).toArray.all fun x => x == Value.type "tuple") = true := by
        simp only [List.all_toArray, List.all_map, List.all_eq_true]
        intro _ _
        show (Value.type "tuple" == Value.type "tuple") = true
        decide
      have h0 : (List.map (fun _ => Value.type "tuple") (v₁ :: v₂ :: rest)).toArray[0]? = some (Value.type "tuple") := by simp
      rw [h0]
      simp only [hall, if_true]
      exact wpAny_pure (wpAny_pure h)
    · rw [if_neg (by simpa using hb)] at h
      obtain ⟨x, hx⟩ : ∃ x, o = some x := by
        cases o with
        | none => exact absurd (ho.mp rfl) hb
        | some x => exact ⟨x, rfl⟩
      subst hx
      rw [if_pos (by simp)]
      exact wpAny_pure h

theorem sortsAt_tups {vs : List Value} {bs : List (List Str)} (e : EachIs (fun v b => ∃ as, Reads s.heap v (tupP b) as) vs bs) (hu : A.units + 1 < cLine) : SortsAt prog w A s (dataKind s.heap (bs.map tupP)) vs := by
  have hal : AllAlike (bs.map tupP) := AllAlike.of alike_tupP
  have e' : EachIs (fun v d => ∃ as, Reads s.heap v d as) vs (bs.map tupP) := each_map (R := fun v d => ∃ as, Reads s.heap v d as) tupP e
  have hd : ∀ d, d ∈ bs.map tupP → A.units + d.depth < cLine := fun d hd => by
    obtain ⟨b, _, rfl⟩ := List.mem_map.mp hd
    have := depth_tupP b
    omega
  by_cases he : [] ∈ bs
  · refine ⟨fun v hv => ?_, if bs.head? = some [] then oneType' else general', ?_, fun h2 E Q hq => kind_tups e h2 he hq⟩
    · obtain ⟨d, hd', as, r⟩ := e'.left v hv
      exact ⟨_, dataKind_some hal hd' r⟩
    · intro E x y a b Q ha hb hq
      obtain ⟨d, as, hd1, ra, rfl⟩ := dataKind_inv ha
      obtain ⟨d', as', hd2, rb, rfl⟩ := dataKind_inv hb
      obtain ⟨xs, _, rfl⟩ := List.mem_map.mp hd1
      obtain ⟨ys, _, rfl⟩ := List.mem_map.mp hd2
      have room : A.units + min (tupP xs).depth (tupP ys).depth < cLine := by
        have h1 := depth_tupP xs
        have : min (tupP xs).depth (tupP ys).depth ≤ (tupP xs).depth := Nat.min_le_left _ _
        omega
      by_cases c : bs.head? = some []
      · rw [if_pos c, keyLt'_oneType]
        exact oneLt_tup ra rb (alike_strs xs ys) room hq
      · rw [if_neg c]
        show wpAny (model prog w) A (oneLt' false x y) Q E s
        exact oneLt_alike (fun z => nomatch z) ra rb (alike_tupP xs ys) (fun z => nomatch z) room hq
  · exact SortsAt.data e' hal (.inl fun d hd => by
      obtain ⟨b, hb, rfl⟩ := List.mem_map.mp hd
      cases b with
      | nil => exact absurd hb he
      | cons x r => exact ⟨.str x, r.map .str, rfl⟩) hd

/-! ### sorted of whatever can be gathered -/
def Keeps (s s' : Shared) : Prop := (∀ b o, s.heap.get? b = some o → s'.heap.get? b = some o) ∧ s'.gens = s.gens ∧ s'.os = s.os
theorem Keeps.new {s s' : Shared} (k : Keeps s s') : s.heap.get? s'.heap.objs.size = none := by
  cases q : s.heap.get? s'.heap.objs.size with
  | none => rfl
  | some o => exact absurd (Heap.lt_size (k.1 _ o q)) (Nat.lt_irrefl _)
theorem sorted_from {l : Addr} {kw : List (Str × Value)} {R : List Value → Prop} {Q : Value → Shared → Prop} (ha1 : argsOk "sorted" ⟨[.ref l], kw⟩) (ha2 : ∀ x, argsOk "list.sort" ⟨[.ref x], kw⟩)
    (hcol : ∀ (E' : Value → Shared → Prop) (Q' : List Value → Shared → Prop), (∀ s' vs, Keeps s s' → vs.length ≤ sizeLine → R vs → Q' vs s') → wpAny (model prog w) A.in1 (collect (.ref l)) Q' E' s)
    (body : ∀ s' vs, Keeps s s' → vs.length ≤ sizeLine → R vs → ∀ E', wpAny (model prog w) A.in1.in1 (Builtin.«list.sort» ⟨[.ref s'.heap.objs.size], kw⟩) (fun f s2 => f = .done (.ret .none) ∧ Q (.ref s'.heap.objs.size) s2) E'
      { s' with heap := s'.heap.push (seqObj "list" vs.toArray 0) }) :
    wpAny (model prog w) A (call (.builtin "sorted") [.ref l] kw) Q E s := by
  refine call_function_entry_kw kind_sorted plain_sorted entry_sorted ha1 ?_
  unfold Builtin.«sorted»
  refine wpAny_bind (m := checkCount "sorted" 1 1 _) (wpAny_pure ?_)
  refine wpAny_bind (hcol _ _ fun s' vs k hz hR => ?_)
  refine wpAny_bind (wpAny_newList ?_ hz)
  have hoL : (s'.heap.push (seqObj "list" vs.toArray 0)).get? s'.heap.objs.size = some (seqObj "list" vs.toArray 0) := Heap.get?_push_size _ rfl
  refine wpAny_bind (wpAny_holding (wpAny_call_entry_kw slot_list_sort ⟨_, hoL, rfl⟩ entry_list_sort ?body (ha2 _)))
  case body =>
    refine wpAny_mono (body s' vs k hz hR _) (fun f s2 hf => ?_) fun _ _ e => e
    obtain ⟨rfl, hq⟩ := hf
    exact ⟨_, rfl, wpAny_pure ⟨_, rfl, hq⟩⟩
/-- .. by the items' own order -/
theorem sorted_plain {l : Addr} {R : List Value → Prop} {Q : Value → Shared → Prop} {κ : List Value → Heap → PyProof.Rows.KeyKind}
    (hcol : ∀ (E' : Value → Shared → Prop) (Q' : List Value → Shared → Prop), (∀ s' vs, Keeps s s' → vs.length ≤ sizeLine → R vs → Q' vs s') → wpAny (model prog w) A.in1 (collect (.ref l)) Q' E' s)
    (hS : ∀ s' vs, Keeps s s' → R vs → SortsAt prog w A.in1.in1 s' (κ vs s'.heap) vs)
    (h : ∀ s' p c vs h1, Keeps s s' → (∀ b o, s.heap.get? b = some o → h1.get? b = some o) → s.heap.get? p = none → R vs → s'.heap.get? p = some (seqObj "list" (sortVals (κ vs h1) false vs vs).toArray c) → Q (.ref p) s') :
    wpAny (model prog w) A (call (.builtin "sorted") [.ref l]) Q E s := by
  refine sorted_from (R := R) (args_sorted1 _) (fun _ => args_list_sort _) hcol fun s' vs k hz hR E' => ?_
  have hoL : (s'.heap.push (seqObj "list" vs.toArray 0)).get? s'.heap.objs.size = some (seqObj "list" vs.toArray 0) := Heap.get?_push_size _ rfl
  have k2 : ∀ b o, s'.heap.get? b = some o → (sortingHeap (s'.heap.push (seqObj "list" vs.toArray 0)) s'.heap.objs.size vs).get? b = some o := fun b o q =>
    sortingHeap_old (Nat.ne_of_lt (Heap.lt_size q)) (Heap.get?_push_of_some _ q)
  have kk : Keeps s { s' with heap := sortingHeap (s'.heap.push (seqObj "list" vs.toArray 0)) s'.heap.objs.size vs } := by
    exact ⟨fun b o q => k2 b o (k.1 b o q), k.2.1, k.2.2⟩
  refine list_sort_vals (s := { s' with heap := s'.heap.push (seqObj "list" vs.toArray 0) }) hoL (hS _ vs kk hR) hz ⟨rfl, ?_⟩
  obtain ⟨c, hc⟩ := sortedHeap_at (vs := vs) (out := (sortVals (κ vs (sortingHeap (s'.heap.push (seqObj "list" vs.toArray 0)) s'.heap.objs.size vs)) false vs vs).toArray) hoL
  refine h { s' with heap := sortedHeap (s'.heap.push (seqObj "list" vs.toArray 0)) s'.heap.objs.size vs (sortVals (κ vs (sortingHeap (s'.heap.push (seqObj "list" vs.toArray 0)) s'.heap.objs.size vs)) false vs vs).toArray } _ c vs _ ?_ kk.1 k.new hR hc
  refine ⟨fun b o q => ?_, k.2.1, k.2.2⟩
  have q1 := k.1 b o q
  have hlt := Heap.lt_size q1
  show (sortedHeap _ _ _ _).get? b = some o
  rw [sortedHeap_old (Nat.ne_of_lt hlt) (by rw [size_push']; exact Nat.lt_succ_of_lt hlt)]
  exact Heap.get?_push_of_some _ q1
end
end UpS

/-! text UpSetA -/
set_option Elab.async false
set_option linter.all false
set_option maxRecDepth 100000
set_option maxHeartbeats 4000000
/-! set(xs) of a list or a tuple, whatever the items: by a promise of one add -/
namespace UpS
open PySem PySem.Spec PyProof.Rows L2

/-- a new set -/
abbrev set0 (w : World) : Obj := { cls := .type "set", dict := none, data := .set #[] 0 (.fresh 0 0 (!w.params.followText "set-order")) }
/-- a set that is built at S over the heap h0: what is so behind i items -/
structure Builds (P : Program) (w : World) (A : Around) (h0 : Heap) (S : Addr) (items : Array Value) (SI : Heap → Nat → Prop) : Prop where
  fresh : ∀ h : Heap, h.get? S = some { cls := .type "set", dict := none, data := .set #[] 0 (.fresh 0 0 (!w.params.followText "set-order")) } → (∀ b o, h0.get? b = some o → h.get? b = some o) → SI h 0
  stay : ∀ (h h' : Heap) i, SI h i → (∀ o, h.get? S = some o → h'.get? S = some o) → (∀ b o, h0.get? b = some o → h'.get? b = some o) → SI h' i
  step : ∀ (i : Nat) (v : Value) (s : Shared) (E : Value → Shared → Prop) (Q : Bool → Shared → Prop), items[i]? = some v → SI s.heap i → (∀ b o, h0.get? b = some o → s.heap.get? b = some o) →
    (∀ c h' tk, s.toks ≤ tk → Heap.SameBut S s.heap h' → SI h' (i + 1) → Q c { s with heap := h', toks := tk }) → wpAny (model P w) A (setAdd S v) Q E s

section
variable {P : Program} {w : World} {A : Around} {E : Value → Shared → Prop} {s : Shared}
theorem upd_loop {I : Addr} {fp wr : List Addr} {Gn : Array GenState → Array GenState → Prop} {n : Nat} {Pv : Nat → Value → Prop} {St : Nat → Shared → Prop} {R : Result → Shared → Prop} {SI : Heap → Nat → Prop} {h0 : Heap} {items : Array Value}
    (W : WalksS P w A.in1 I fp wr Gn n Pv St) (S : Addr) (hSf : S ∉ fp) (hn : n = items.size) (hval : ∀ i v, Pv i v → items[i]? = some v) (B : Builds P w A.in1 h0 S items SI)
    (hS0 : h0.get? S = none) (hw0 : ∀ b ∈ wr, h0.get? b = none) :
    ∀ (k i : Nat) (s : Shared), n - i = k → i ≤ n → St i s → (∀ b o, h0.get? b = some o → s.heap.get? b = some o) → SI s.heap i →
      (∀ s', Moved (S :: wr) Gn s s' → SI s'.heap n → (∀ b o, h0.get? b = some o → s'.heap.get? b = some o) → R (.ok (.ret .none)) s') →
      codeAny (model P w) A (.builtin "set.update.loop" ⟨[.ref S, .ref I], []⟩) R s := by
  have nS : S ∉ wr := fun h => hSf (W.sub _ h)
  have up : ∀ {s s' : Shared}, Moved wr Gn s s' → (∀ b o, h0.get? b = some o → s.heap.get? b = some o) → ∀ b o, h0.get? b = some o → s'.heap.get? b = some o := fun hm k b o e =>
    hm.heap b o (fun hb => by rw [hw0 b hb] at e; cases e) (k b o e)
  intro k
  induction k with
  | zero =>
    intro i s hk hi hst kp hI hR
    have ei : i = n := by omega
    subst ei
    refine codeAny_builtin F.entry_set_update_loop ?_
    rw [Around.under_plainId F.plain_set_update_loop _]
    refine wpAny_bind (W.done s _ _ hst fun s' hm => wpAny_pure (hR s' (hm.mono fun b hb => List.mem_cons_of_mem _ hb) (B.stay _ _ _ hI (fun o e => hm.heap S o nS e) (up hm kp)) (up hm kp)))
  | succ k ih =>
    intro i s hk hi hst kp hI hR
    have hlt : i < n := by omega
    refine codeAny_builtin F.entry_set_update_loop ?_
    rw [Around.under_plainId F.plain_set_update_loop _]
    refine wpAny_bind (W.item i s _ _ hlt hst fun v s' hP hst' hm => ?_)
    have kp' := up hm kp
    refine wpAny_bind (wpAny_holding (B.step i v s' _ _ (hval i v hP) (B.stay _ _ _ hI (fun o e => hm.heap S o nS e) kp') kp' fun c h' tk htk sb hI' => ?_))
    have kp2 : ∀ b o, h0.get? b = some o → h'.get? b = some o := fun b o e => (sb.2 b (fun z => by rw [z, hS0] at e; cases e)).trans (kp' b o e)
    refine wpAny_pure ⟨plainId_quiet F.plain_set_update_loop _, ih (i + 1) _ (by omega) hlt (W.frame _ s' h' tk hst' htk fun b hb o e => ?_) kp2 hI' fun s'' hm'' hI'' kp'' => ?_⟩
    · exact (sb.2 b (fun z => hSf (by rw [← z]; exact hb))).trans e
    · refine hR s'' (Moved.trans W.gtrans ((hm.mono fun b hb => List.mem_cons_of_mem _ hb).then_heap htk fun b o hb e => ?_) hm'') hI'' kp''
      exact (sb.2 b (fun z => hb (by rw [z]; exact List.mem_cons_self))).trans e
/-- a sequence that set(..) is asked of: its walk -/
structure SeqAt (P : Program) (w : World) (T : String) (h : Heap) (l : Addr) (items : Array Value) (io : Obj) (St : Addr → Nat → Heap → Prop) : Prop where
  typ : ∀ s : Shared, (∀ b o, h.get? b = some o → s.heap.get? b = some o) → s.TypeIs (.ref l) T
  old : l < h.objs.size
  iter : ∀ {A : Around} {E : Value → Shared → Prop} {s : Shared} {Q : Value → Shared → Prop}, (∀ b o, h.get? b = some o → s.heap.get? b = some o) → Q (.ref s.heap.objs.size) { s with heap := s.heap.push io } → wpAny (model P w) A (pyIter (.ref l)) Q E s
  walk : ∀ {A : Around} (I : Addr), A.handled = none → l ≠ I → Walks P w A I [I, l] [I] items.size (fun i v => items[i]? = some v) (St I)
  first : ∀ k : Heap, (∀ b o, h.get? b = some o → k.get? b = some o) → St k.objs.size 0 (k.push io)
theorem seq_list {h : Heap} {l : Addr} {items : Array Value} (hl : h.IsList l items) : SeqAt P w "list" h l items { cls := .type "list_iterator", data := .fields #[.ref l, .int 0 0] } (fun I i k => k.IsListIter I l i ∧ k.IsList l items) :=
  have up : ∀ {k : Heap}, (∀ b o, h.get? b = some o → k.get? b = some o) → k.IsList l items := fun k => hl.at fun o e => k l o e
  ⟨fun s k => (up k).typeIs, let ⟨_, ho, _⟩ := hl; Heap.lt_size ho, fun k q => wpAny_pyIter_list (up k) q, fun I hh ne => Walks.list hh I l ne items, fun k e => ⟨⟨_, Heap.get?_push_size _ rfl, rfl, rfl⟩, (up e).push _⟩⟩
theorem seq_tuple {h : Heap} {l : Addr} {items : Array Value} (hl : h.IsTuple l items) : SeqAt P w "tuple" h l items { cls := .type "tuple_iterator", data := .fields #[.ref l, .int 0 0] } (fun I i k => k.IsTupleIter I l i ∧ k.IsTuple l items) :=
  have up : ∀ {k : Heap}, (∀ b o, h.get? b = some o → k.get? b = some o) → k.IsTuple l items := fun k => hl.at fun o e => k l o e
  ⟨fun s k => (up k).typeIs, let ⟨_, ho, _⟩ := hl; Heap.lt_size ho, fun k q => wpAny_pyIter_tuple (up k) q, fun I hh ne => Walks.tuple hh I l ne items, fun k e => ⟨⟨_, Heap.get?_push_size _ rfl, rfl, rfl⟩, (up e).push _⟩⟩
/-- set(x): behind the new set, its __init__ -/
theorem call_set_init {x : Value} {Q : Value → Shared → Prop}
    (h : wpAny (model P w) A.in1.in1 (Builtin.«set.__init__» ⟨[.ref s.heap.objs.size, x], []⟩)
      (fun fin s' => match fin with
        | .done f => wants (fun r s₂ => r = .none ∧ Q (.ref s.heap.objs.size) s₂) E (.ok f) s'
        | .again c => c.quiet = true ∧ codeAny (model P w) A.in1 c (wants (fun r s₂ => r = .none ∧ Q (.ref s.heap.objs.size) s₂) E) s')
      (fun e s' => wants (fun r s₂ => r = .none ∧ Q (.ref s.heap.objs.size) s₂) E (.error e) s') { s with heap := s.heap.push (set0 w) }) :
    wpAny (model P w) A (call (.type "set") [x]) Q E s := by
  have ft := F.called_set
  obtain ⟨c, tl, m1⟩ := ft.mro
  have ⟨m2, m3, m4, m5, m6⟩ := And.intro ft.made (And.intro ft.sub (And.intro ft.notType (And.intro ft.canCreate (F.typeCall_set_1 x))))
  refine wpAny_call (codeAny_of_tree (show wpAny _ _ (callAny (.type "set") _) _ _ _ from wpAny_pure ⟨Code.quiet_builtin _ (by decide +kernel), codeAny_builtin F.entry_type_call ?_⟩))
  rw [Around.under_plain (weight_type_call_type "set" [x] []) rfl]
  repeat (any_goals (first | assumption | wp_step))
  refine codeAny_mono (code_set_led1 x (E := E) (Q₁ := fun obj s₁ => obj = .ref s.heap.objs.size ∧ s₁ = { s with heap := s.heap.push (set0 w) }) ⟨rfl, rfl⟩) fun r s₁ hr => ?_
  match r, hr with
  | .error e, hr => exact hr
  | .ok (.ret obj), hr =>
    obtain ⟨rfl, rfl⟩ := hr
    have ty : Shared.TypeIs { s with heap := s.heap.push (set0 w) } (.ref s.heap.objs.size) "set" := ⟨_, Heap.get?_push_size _ rfl, rfl⟩
    have m7 := ft.init.lookup
    have m8 := ft.init.bind (.ref s.heap.objs.size)
    repeat (any_goals (first | assumption | wp_step))
    refine codeAny_mono (codeAny_call_builtin ft.init.plain F.entry_set_init (check_set_init_1 ty h)) fun r₂ s₂ hr₂ => ?_
    match r₂, hr₂ with
    | .error e, hr₂ => exact hr₂
    | .ok (.ret r), hr₂ =>
      obtain ⟨rfl, hq⟩ := hr₂
      repeat (any_goals (first | assumption | wp_step))
    | .ok .next, hr₂ => exact hr₂.elim
    | .ok .brk, hr₂ => exact hr₂.elim
    | .ok .cont, hr₂ => exact hr₂.elim
  | .ok .next, hr => exact hr.elim
  | .ok .brk, hr => exact hr.elim
  | .ok .cont, hr => exact hr.elim
theorem call_set_of {T : String} {l : Addr} {items : Array Value} {io : Obj} {St : Addr → Nat → Heap → Prop} {SI : Heap → Nat → Prop} {Q : Value → Shared → Prop} (hh : A.handled = none) (seq : SeqAt P w T s.heap l items io St)
    (sub1 : isSubtype (.type T) (.type "set") = pure false) (sub2 : isSubtype (.type T) (.type "frozenset") = pure false) (nd : (Value.type T == Value.type "dict") = false)
    (B : Builds P w A.in1.in1.in1 s.heap s.heap.objs.size items SI)
    (h : ∀ (h' : Heap) (tk : Nat), SI h' items.size → (∀ b o, s.heap.get? b = some o → h'.get? b = some o) → Q (.ref s.heap.objs.size) { s with heap := h', toks := tk }) :
    wpAny (model P w) A (call (.type "set") [.ref l]) Q E s := by
  refine call_set_init ?_
  have hS : (s.heap.push (set0 w)).get? s.heap.objs.size = some (set0 w) := Heap.get?_push_size _ rfl
  have k1 : ∀ b o, s.heap.get? b = some o → (s.heap.push (set0 w)).get? b = some o := fun b o e => Heap.get?_push_of_some _ e
  have hT := seq.typ { s with heap := s.heap.push (set0 w) } k1
  have size1 : (s.heap.push (set0 w)).objs.size = s.heap.objs.size + 1 := Heap.size_push ..
  have lt1 : s.heap.objs.size < (s.heap.push (set0 w)).objs.size := by rw [size1]; exact Nat.lt_succ_self _
  unfold Builtin.«set.__init__» noKeywords Builtin.Frozenset.updateFrom
  generalize hPI : pyIter = PI
  wp_walk
  subst hPI
  refine seq.iter k1 (wpAny_bind (wpAny_runValue ?_))
  have hI : l ≠ (s.heap.push (set0 w)).objs.size := Nat.ne_of_lt (Nat.lt_trans seq.old lt1)
  have none_at : ∀ b, s.heap.objs.size ≤ b → s.heap.get? b = none := fun b hb => Heap.get?_none_of_le hb
  refine upd_loop (SI := SI) (h0 := s.heap) (items := items) (seq.walk _ (by simp [hh]) hI).toS s.heap.objs.size (fun z => ?_) rfl (fun i v hv => hv) B (none_at _ (Nat.le_refl _)) (fun b hb => none_at b ?_) _ 0 _ rfl (Nat.zero_le _)
    (seq.first _ k1) (fun b o e => Heap.get?_push_of_some _ (k1 b o e)) (B.fresh _ (Heap.get?_push_of_some _ hS) fun b o e => Heap.get?_push_of_some _ (k1 b o e)) fun s' hm hI' hk => ?_
  · rcases List.mem_cons.mp z with e | e
    · exact absurd e (Nat.ne_of_lt lt1)
    · exact absurd (List.mem_singleton.mp e).symm (Nat.ne_of_lt seq.old)
  · rw [List.mem_singleton.mp hb]
    exact Nat.le_of_lt lt1
  · obtain ⟨h', g', d', tk', os'⟩ := s'
    obtain rfl : g' = s.gens := hm.gens
    obtain rfl : d' = s.drawn := hm.drawn
    obtain rfl : os' = s.os := hm.os
    exact wpAny_pure (wpAny_pure ⟨rfl, h h' tk' hI' hk⟩)
theorem call_set_list {l : Addr} {items : Array Value} {SI : Heap → Nat → Prop} {Q : Value → Shared → Prop} (hh : A.handled = none) (hl : s.heap.IsList l items) (B : Builds P w A.in1.in1.in1 s.heap s.heap.objs.size items SI)
    (h : ∀ (h' : Heap) (tk : Nat), SI h' items.size → (∀ b o, s.heap.get? b = some o → h'.get? b = some o) → Q (.ref s.heap.objs.size) { s with heap := h', toks := tk }) : wpAny (model P w) A (call (.type "set") [.ref l]) Q E s :=
  call_set_of hh (seq_list hl) F.sub_list_set F.sub_list_frozenset (by decide) B h
theorem call_set_tuple {l : Addr} {items : Array Value} {SI : Heap → Nat → Prop} {Q : Value → Shared → Prop} (hh : A.handled = none) (hl : s.heap.IsTuple l items) (B : Builds P w A.in1.in1.in1 s.heap s.heap.objs.size items SI)
    (h : ∀ (h' : Heap) (tk : Nat), SI h' items.size → (∀ b o, s.heap.get? b = some o → h'.get? b = some o) → Q (.ref s.heap.objs.size) { s with heap := h', toks := tk }) : wpAny (model P w) A (call (.type "set") [.ref l]) Q E s :=
  call_set_of hh (seq_tuple hl) F.sub_tuple_set F.sub_tuple_frozenset (by decide) B h
end
end UpS

/-! text UpSetB -/
set_option Elab.async false
set_option linter.all false
set_option maxRecDepth 100000
set_option maxHeartbeats 4000000
/-! sets of texts, by the exact words of HandS.SetTxt0 -/
namespace UpS
open PySem PySem.Spec PyProof.Rows L2 PySem.Froz
/-- the text of an entry -/
def keyS (e : Int × Value) : Str := match e.2 with
  | .str k _ => k
  | _ => ⟨#[]⟩
def keysD (D : SD) : List Str := D.1.toList.map keyS
/-- a payload of unlike texts whose table can be walked -/
structure TxD (P : Program) (w : World) (D : SD) : Prop where
  ok : TxOk P w D (keysD D)
  nd : (keysD D).Nodup
  txt : ∀ e ∈ D.1.toList, ∃ tk, e.2 = Value.str (keyS e) tk
  ris : Ris D.2.2.place.toList
  led : w.params.followText "set-order" = true ∨ D.2.2.led = true
def TxAt (P : Program) (w : World) (h : Heap) (a : Addr) (l : List Str) : Prop := ∃ D, h.get? a = some (sObj "set" D) ∧ TxD P w D ∧ (keysD D).Perm l

/-! ### what an add does to the payload -/
theorem tailTx_perm (ep : Nat) (es : Array (Int × Value)) (t : SetTable) (b : Bool) : (tailTx ep es t b).1.toList.Perm es.toList := by
  unfold tailTx
  split
  · exact relayAll_perm t es _
  · exact .refl _
theorem tailTx_tab {Pt : SetTable → Prop} (ep : Nat) (es : Array (Int × Value)) (t : SetTable) (b : Bool) (h0 : Pt t) (h1 : ∀ n, Pt (relayAll t es n).2.1) : Pt (tailTx ep es t b).2.2 := by
  unfold tailTx
  split
  · exact h1 _
  · exact h0
theorem addTx_perm (h : Int) (v : Value) (D : SD) : (addTx h v D).1.toList.Perm ((h, v) :: D.1.toList) := by
  have p := layNew_perm D.2.2 D.1 h v
  rw [Array.toList_push] at p
  exact (tailTx_perm ..).trans (p.trans (List.perm_append_singleton _ _))
theorem addTx_ris {h : Int} {v : Value} {D : SD} (r : Ris D.2.2.place.toList) : Ris (addTx h v D).2.2.place.toList := by
  have r1 := layNew_ris D.2.2 D.1 h v r
  refine tailTx_tab (Pt := fun t => Ris t.place.toList) _ _ _ _ ?_ fun n => relayAll_ris _ _ n
  split <;> exact r1
theorem addTx_led {h : Int} {v : Value} {D : SD} : (addTx h v D).2.2.led = D.2.2.led := by
  have r1 := layNew_led D.2.2 D.1 h v
  have r2 : (if (layNew D.2.2 D.1 h v).2.1.plain = true then { (layNew D.2.2 D.1 h v).2.1 with plain := false } else (layNew D.2.2 D.1 h v).2.1).led = D.2.2.led := by
    split <;> exact r1
  refine tailTx_tab (Pt := fun t => t.led = D.2.2.led) _ _ _ _ r2 fun n => ?_
  rw [relayAll_led]
  exact r2
section
variable {P : Program} {w : World} {A : Around} {E : Value → Shared → Prop} {s : Shared}
theorem txOk_to {D : SD} {l l' : List Str} (F : TxOk P w D l) (p : l'.Perm l) : TxOk P w D l' := ⟨F.el, fun k => p.mem_iff.trans (F.mem k), F.sz.trans p.length_eq.symm, F.fit⟩
theorem TxD.add {D : SD} {k : Str} {tk : Tok} (T : TxD P w D) (hk : k ∉ keysD D) : TxD P w (addTx (hashStr w k) (.str k tk) D) ∧ (keysD (addTx (hashStr w k) (.str k tk) D)).Perm (k :: keysD D) := by
  have p := addTx_perm (hashStr w k) (.str k tk) D
  have pk : (keysD (addTx (hashStr w k) (.str k tk) D)).Perm (k :: keysD D) := p.map keyS
  refine ⟨⟨txOk_to (add_ok tk T.ok) pk, pk.nodup_iff.mpr (List.nodup_cons.mpr ⟨hk, T.nd⟩), fun e he => ?_, addTx_ris T.ris, T.led.imp id fun z => addTx_led.trans z⟩, pk⟩
  rcases List.mem_cons.mp (p.mem_iff.mp he) with z | z
  · exact ⟨tk, by rw [z]; rfl⟩
  · exact T.txt e z
/-- a text that is there already -/
theorem add_old {a : Addr} {D : SD} {k : Str} {tk : Tok} {Q : Bool → Shared → Prop} (ho : s.heap.get? a = some (sObj "set" D)) (T : TxD P w D) (hk : k ∈ keysD D) (hb : (keysD D).length < scanBound) (h : Q false s) :
    wpAny (model P w) A (setAddHashed a (.str k tk) (hashStr w k)) Q E s := by
  obtain ⟨es, ep, t⟩ := D
  have F := T.ok
  have small : es.size < scanBound := by rw [show es.size = _ from F.sz]; exact hb
  unfold setAddHashed setAddHashedIn
  refine wpAny_holding (wpAny_bind (wpAny_setState_of ho rfl F.fit ?_))
  dsimp only
  rw [byScan_of rfl small F.el, if_pos rfl]
  unfold setAddByScan
  refine wpAny_bind (wpAny_bind (wpAny_rule (wpAny_bind (wpAny_setScan_of (knd := strKind P w) (k := k) (is_str k tk) ho rfl F.fit F.el ?_))))
  obtain ⟨e, he, z⟩ := (F.mem k).mp hk
  cases hj : List.findIdx? (fun e => (strKind P w).is k e.2) es.toList with
  | none => exact absurd z (by rw [List.findIdx?_eq_none_iff.mp hj e he]; exact Bool.false_ne_true)
  | some j => exact wpAny_pure (wpAny_pure h)
theorem TxAt.put {a : Addr} {l : List Str} {k : Str} {tk : Tok} {Q : Bool → Shared → Prop} (T : TxAt P w s.heap a l) (hb : l.length + 1 < scanBound)
    (h : ∀ c h' l', Heap.SameBut a s.heap h' → TxAt P w h' a l' → (∀ x, x ∈ l' ↔ x = k ∨ x ∈ l) → l'.length ≤ l.length + 1 → Q c { s with heap := h' }) : wpAny (model P w) A (setAddHashed a (.str k tk) (hashStr w k)) Q E s := by
  obtain ⟨D, ho, T, p⟩ := T
  have hl := p.length_eq
  by_cases hk : k ∈ keysD D
  · exact add_old ho T hk (by omega) (h false s.heap l (.refl a s.heap) ⟨D, ho, T, p⟩ (fun x => ⟨.inr, fun z => z.elim (fun e => by rw [e]; exact p.mem_iff.mp hk) id⟩) (Nat.le_succ _))
  · obtain ⟨T', p'⟩ := T.add (tk := tk) hk
    refine add_x ho T.ok hk (by omega) (h true _ (k :: l) (Heap.SameBut.update s.heap a fun _ => sObj "set" (addTx (hashStr w k) (.str k tk) D)) ⟨_, get_upd _ ho rfl, T', p'.trans (p.cons k)⟩ (fun x => List.mem_cons) (Nat.le_refl _))
/-- a new set -/
theorem tx_new {h : Heap} {a : Addr} (ho : h.get? a = some (set0 w)) : TxAt P w h a [] := by
  refine ⟨(#[], 0, .fresh 0 0 (!w.params.followText "set-order")), ho, ⟨.nil rfl, List.nodup_nil, fun e he => (by cases he), List.Pairwise.nil, ?_⟩, .refl _⟩
  cases c : w.params.followText "set-order" with
  | true => exact .inl rfl
  | false => exact .inr (by rfl)
/-- behind i texts -/
def SIs (P : Program) (w : World) (S : Addr) (xs : List Str) (h : Heap) (i : Nat) : Prop := ∃ l, TxAt P w h S l ∧ (∀ k, k ∈ l ↔ k ∈ xs.take i) ∧ l.length ≤ i
theorem builds_strs {h0 : Heap} {S : Addr} {xs : List Str} {items : Array Value} (hi : ∀ (i : Nat) (v : Value), items[i]? = some v → ∃ (x : Str) (tk : Tok), v = Value.str x tk ∧ xs[i]? = some x) (hl : xs.length < scanBound) : Builds P w A h0 S items (SIs P w S xs) where
  fresh h ho _ := ⟨[], tx_new ho, fun k => by simp, Nat.le_refl _⟩
  stay h h' i := fun ⟨l, ⟨D, ho, T⟩, m⟩ k _ => ⟨l, ⟨D, k _ ho, T⟩, m⟩
  step i v s E Q hv := fun ⟨l, T, m, hn⟩ _ hq => by
    obtain ⟨x, tk, rfl, hx⟩ := hi i v hv
    have hlt := (List.getElem?_eq_some_iff.mp hx).1
    unfold setAdd
    refine wpAny_holding (wpAny_bind ((strKind P w).pyHash (strKind_is P w x tk) (TxAt.put (s := { s with toks := s.toks + 1 }) T (by omega) fun c h' l' sb T' m' hn' => hq c h' _ (Nat.le_succ _) sb ⟨l', T', fun k => ?_, by omega⟩)))
    rw [m', m, List.take_succ, hx, List.mem_append]
    show _ ↔ _ ∨ k ∈ [x]
    rw [List.mem_singleton]
    exact Or.comm
end
end UpS

/-! text UpSetC -/
set_option Elab.async false
set_option linter.all false
set_option maxRecDepth 100000
set_option maxHeartbeats 4000000
/-! sets whose members are objects of one kind of key (HeapKind): adding, for any such kind that is calm -/
namespace UpS
open PySem PySem.Spec PyProof.Rows L2
/-! ### the table alone: what a probe finds that begins at the c-th place of a hash's way -/
section
variable {t : SetTable} {hs : List Int} {h : Int} {K : Nat}
/-- the c-th probe on the way of h -/
def onWay (m : Nat) (h : Int) (c : Nat) : SetTable.Probe := nth m (runAt m (SetTable.bits h % (m + 1)) (SetTable.bits h)) c
theorem onWay_no_dummy (m : Nat) (h : Int) : ∀ c, (onWay m h c).dummy = none
  | 0 => rfl
  | c + 1 => by
    have e : onWay m h (c + 1) = adv m (onWay m h c) := nth_succ ..
    rw [e]
    unfold adv
    split <;> exact onWay_no_dummy m h c
theorem onWay_go (m : Nat) (h : Int) (c d : Nat) : nth m (onWay m h c) d = onWay m h (c + d) := (nth_add ..).symm
/-- at these places no entry of the hash stands -/
def Bare (t : SetTable) (hashAt : Nat → Int) (h : Int) (c d : Nat) : Prop := ∀ q i, c ≤ q → q < d → t.place.toList[i]? = some (way t.mask h q) → hashAt i ≠ h
theorem probe_from (T : TabOk t hs) (hashAt : Nat → Int) (hK : K < 10 * SetTable.turns t.mask) (free : way t.mask h K ∉ t.place.toList) (full : ∀ c, c < K → way t.mask h c ∈ t.place.toList) {c : Nat} (hc : c ≤ K) :
    (∃ d i, c ≤ d ∧ d < K ∧ t.place.toList[i]? = some (way t.mask h d) ∧ Bare t hashAt h c d ∧ t.probe hashAt h (onWay t.mask h c) = some (.candidate (way t.mask h d) i (onWay t.mask h (d + 1)))) ∨
    (Bare t hashAt h c K ∧ t.probe hashAt h (onWay t.mask h c) = some (.empty (way t.mask h K) none)) := by
  have at_ : ∀ q, (nth t.mask (onWay t.mask h c) q).j = way t.mask h (c + q) := fun q => congrArg SetTable.Probe.j (onWay_go ..)
  have bare : ∀ d, (∀ q i, q < d → t.place.toList[i]? = some (nth t.mask (onWay t.mask h c) q).j → hashAt i ≠ h) → Bare t hashAt h c (c + d) := fun d z q i h1 h2 h3 =>
    z (q - c) i (by omega) (by rw [at_, Nat.add_sub_of_le h1]; exact h3)
  have eK : c + (K - c) = K := Nat.add_sub_of_le hc
  have g := go_spec t T.ris T.dm hashAt h (10 * SetTable.turns t.mask) (K - c) (onWay t.mask h c) (onWay_no_dummy ..) (by omega) (fun q hq => by rw [at_]; exact full _ (by omega)) (by rw [at_, eK]; exact free)
  rcases g with ⟨q, i, h1, h2, _, h4, h5⟩ | ⟨h1, h2⟩
  · rw [at_] at h2
    refine .inl ⟨c + q, i, Nat.le_add_right _ _, by omega, h2, bare q h4, ?_⟩
    rw [at_, onWay_go] at h5
    exact h5
  · rw [at_, eK] at h2
    have b := bare _ h1
    rw [eK] at b
    exact .inr ⟨b, h2⟩
end
/-! ### lists by places -/
theorem pick_all {α : Type} (l : List α) : (List.range l.length).filterMap (fun i => l[i]?) = l := by
  induction l with
  | nil => rfl
  | cons x l ih =>
    rw [List.length_cons, List.range_succ_eq_map, List.filterMap_cons_some (f := fun i => (x :: l)[i]?) (b := x) rfl, List.filterMap_map]
    exact congrArg (x :: ·) ih
theorem pick_map {α β : Type} (f : Nat → Option α) (g : Nat → β) (k : α → β) : ∀ l : List Nat, (∀ i ∈ l, ∃ x, f i = some x ∧ k x = g i) → (l.filterMap f).map k = l.map g
  | [], _ => rfl
  | i :: l, h => by
    obtain ⟨x, h1, h2⟩ := h i List.mem_cons_self
    rw [List.filterMap_cons_some h1, List.map_cons, List.map_cons, h2, pick_map f g k l fun j hj => h j (List.mem_cons_of_mem _ hj)]

/-! ### members: where they stand, their keys -/
section
variable {P : Program} {w : World} {κ : Type} [DecidableEq κ] {knd : HeapKind P w κ} {A : Around} {E : Value → Shared → Prop} {s : Shared} {S : Addr}
/-- what a set asks of a kind beside the kind's own words: its objects stay keys; no class statement made them; whatever their hash is told by is no matter -/
structure Calm (knd : HeapKind P w κ) : Prop where
  stays : knd.Stays
  plain : ∀ {A : Around} {E : Value → Shared → Prop} {s : Shared} {k : κ} {x : Addr} {Q : Bool → Shared → Prop}, knd.is s.heap k x → Q false s → wpAny (model P w) A (ofAClassStatement 8 (.ref x)) Q E s
  told : ∀ {A : Around} {E : Value → Shared → Prop} {s : Shared} {k : κ} {x : Addr} {Q : Bool → Shared → Prop}, knd.is s.heap k x → (∀ c, Q c s) → wpAny (model P w) A (hashByValue 8 (.ref x)) Q E s
/-- a walk whose turns leave all as it was -/
theorem idle_for {α β : Type} {M : Model} {b : β} {f : α → β → Sem (ForInStep β)} : ∀ {xs : List α}, (∀ x ∈ xs, ∀ R : ForInStep β → Shared → Prop, R (.yield b) s → wpAny M A (f x b) R E s) → ∀ {Q : β → Shared → Prop}, Q b s → wpAny M A (forIn xs b f) Q E s
  | [], _, _, h => by
    rw [List.forIn_nil]
    exact wpAny_pure h
  | x :: xs, hf, _, h => by
    rw [List.forIn_cons]
    exact wpAny_bind (hf x List.mem_cons_self _ (idle_for (fun y hy => hf y (List.mem_cons_of_mem _ hy)) h))
theorem Calm.unseen (c : Calm knd) {k : κ} {x : Addr} (hx : knd.is s.heap k x) {ys : List Value} (hy : ∀ y ∈ ys, ∃ j b, y = Value.ref b ∧ knd.is s.heap j b) {Q : Bool → Shared → Prop} (h : Q false s) : wpAny (model P w) A (searchCouldBeSeen (.ref x) ys) Q E s := by
  unfold searchCouldBeSeen
  refine wpAny_bind (idle_for (fun y z R hR => ?_) (wpAny_pure h))
  obtain ⟨j, b, rfl, hb⟩ := hy y z
  dsimp only
  split
  · exact wpAny_pure hR
  · refine wpAny_bind (knd.quiet hx ?_)
    rw [if_neg (by decide)]
    refine wpAny_bind (knd.quiet hb ?_)
    rw [if_neg (by decide)]
    refine wpAny_bind (c.plain hx ?_)
    rw [if_neg (by decide)]
    refine wpAny_bind (c.plain hb ?_)
    rw [if_neg (by decide)]
    exact wpAny_pure hR

/-- an entry of the table -/
def entK (knd : HeapKind P w κ) (m : Addr × κ) : Int × Value := (knd.hash m.2, .ref m.1)
/-- the set at S has the members ms, in its entries' order; it may be too full -/
structure SetRaw (knd : HeapKind P w κ) (h : Heap) (S : Addr) (ms : List (Addr × κ)) (es : Array (Int × Value)) (ep : Nat) (t : SetTable) : Prop where
  obj : ∃ o, h.get? S = some o ∧ o.ExactSet ∧ o.data = .set es ep t
  ents : es.toList = ms.map (entK knd)
  tab : TabOk t (ms.map fun m => knd.hash m.2)
  once : (ms.map (·.2)).Nodup
  keys : ∀ m ∈ ms, knd.is h m.2 m.1
  led : w.params.followText "set-order" = true ∨ t.led = true
  few : ms.length < 64
/-- .. it is not -/
structure SetIs (knd : HeapKind P w κ) (h : Heap) (S : Addr) (ms : List (Addr × κ)) (es : Array (Int × Value)) (ep : Nat) (t : SetTable) : Prop extends SetRaw knd h S ms es ep t where
  room : ms.length * 5 < t.mask * 3
variable {ms : List (Addr × κ)} {es : Array (Int × Value)} {ep : Nat} {t : SetTable}
theorem ents_size (e : es.toList = ms.map (entK knd)) : es.size = ms.length := by
  rw [← Array.length_toList, e, List.length_map]
theorem ents_at (e : es.toList = ms.map (entK knd)) (i : Nat) : es[i]? = (ms[i]?).map (entK knd) := by
  rw [← Array.getElem?_toList, e, List.getElem?_map]
theorem fits_of {n : Nat} (d : t.dummies = #[]) (e : t.place.size = n) (hn : n ≤ t.mask) : t.fits n = true := by
  unfold SetTable.fits SetTable.fill
  rw [d, e]
  simp [hn]
theorem SetRaw.fits {h : Heap} (R : SetRaw knd h S ms es ep t) (hm : ms.length ≤ t.mask) : t.fits es.size = true := by
  have e := R.tab.sz
  rw [List.length_map] at e
  have z := ents_size R.ents
  exact fits_of R.tab.dm (e.trans z.symm) (by omega)
theorem SetIs.fits {h : Heap} (R : SetIs knd h S ms es ep t) : t.fits es.size = true := R.toSetRaw.fits (by have := R.room; omega)
theorem SetIs.read (R : SetIs knd s.heap S ms es ep t) {Q : (Array (Int × Value) × Nat × SetTable) → Shared → Prop} (h : Q (es, ep, t) s) : wpAny (model P w) A (setState S) Q E s :=
  let ⟨_, ho, _, hd⟩ := R.obj
  wpAny_setState_of ho hd R.fits h
theorem SetIs.sound {h : Heap} (R : SetIs knd h S ms es ep t) : ¬ t.gaveWay = true := by
  unfold SetTable.gaveWay
  rw [mask_odd R.tab.mok]
  decide
theorem ent_hash (e : es.toList = ms.map (entK knd)) {i : Nat} {m : Addr × κ} (h : ms[i]? = some m) : (es[i]?.map (·.1)).getD 0 = knd.hash m.2 := by
  rw [ents_at e, h]; rfl
/-- THE SEARCH, from the d-th probe on: none of the entries that were passed has the key -/
theorem SetIs.seek (R : SetIs knd s.heap S ms es ep t) (c : Calm knd) {k : κ} {x : Addr} (hx : knd.is s.heap k x) (hu : knd.room A) {K : Nat} (hK : K < 10 * SetTable.turns t.mask)
    (free : way t.mask (knd.hash k) K ∉ t.place.toList) (full : ∀ q, q < K → way t.mask (knd.hash k) q ∈ t.place.toList) {Q : SetFound → Shared → Prop}
    (there : (∃ m ∈ ms, m.2 = k) → Q (.there none) s) (away : (∀ m ∈ ms, m.2 ≠ k) → Q (.free (way t.mask (knd.hash k) K) false) s) :
    ∀ (f d : Nat) (stand : Option SetTable.Probe), stand.getD (t.probeStart (knd.hash k)) = onWay t.mask (knd.hash k) d → d ≤ K → K - d < f →
      (∀ (q i : Nat) (m : Addr × κ), q < d → t.place.toList[i]? = some (way t.mask (knd.hash k) q) → ms[i]? = some m → m.2 ≠ k) → wpAny (model P w) A (setSearchFrom S (.ref x) (knd.hash k) true f stand) Q E s
  | 0, _, _, _, _, hf, _ => absurd hf (Nat.not_lt_zero _)
  | f + 1, d, stand, e, hd, hf, past => by
    rw [setSearchFrom_succ]
    refine wpAny_bind (R.read ?_)
    dsimp only
    refine wp_if_neg R.sound ?_
    try refine wpAny_bind (wpAny_pure ?_)
    rw [e]
    have len := R.tab.sz
    rw [List.length_map] at len
    rcases probe_from R.tab (fun i => (es[i]?.map (·.1)).getD 0) hK free full hd with ⟨q, i, h1, h2, hi, bare, hp⟩ | ⟨bare, hp⟩
    · rw [hp]
      dsimp only
      have il : i < ms.length := by
        have := (List.getElem?_eq_some_iff.mp hi).1
        rw [Array.length_toList] at this
        omega
      obtain ⟨m, hm⟩ : ∃ m, ms[i]? = some m := ⟨_, List.getElem?_eq_getElem il⟩
      have mem := List.mem_of_getElem? hm
      have live := slot_live R.tab.ris hi
      have go_on : wpAny (model P w) A (searchRest S (.ref x) (knd.hash k) true f es t (way t.mask (knd.hash k) q) i (onWay t.mask (knd.hash k) (q + 1))) Q E s := by
        unfold searchRest
        have em : es[i]? = some (knd.hash m.2, .ref m.1) := by rw [ents_at R.ents, hm]; rfl
        rw [em]
        dsimp only
        refine wpAny_bind (wpAny_holding (knd.eqBool hu (R.keys m mem) hx (wpAny_bind (R.read ?_))))
        dsimp only
        by_cases same : m.2 = k
        · rw [decide_eq_true same]
          exact wp_if_pos rfl (wpAny_pure (there ⟨m, mem, same⟩))
        · rw [decide_eq_false same]
          refine wp_if_neg (by decide) ?_
          try refine wpAny_bind (wpAny_pure ?_)
          rw [sameMem]
          dsimp only
          simp only [if_true, live, em]
          refine wpAny_bind (wpAny_isSame_ref_self (wpAny_bind (wpAny_pure ?_)))
          simp only [if_true]
          refine wp_if_neg (by decide) (SetIs.seek R c hx hu hK free full there away f (q + 1) _ rfl h2 (by omega) fun q' i' m' g1 g2 g3 g4 => ?_)
          have hh : (es[i']?.map (·.1)).getD 0 = knd.hash k := (ent_hash R.ents g3).trans (congrArg knd.hash g4)
          rcases Nat.lt_or_ge q' d with z | z
          · exact past q' i' m' z g2 g3 g4
          rcases Nat.lt_or_ge q' q with y | y
          · exact bare q' i' z y g2 hh
          obtain rfl : q' = q := Nat.le_antisymm (Nat.le_of_lt_succ g1) y
          have l2 := slot_live R.tab.ris g2
          rw [live] at l2
          injection l2 with l2
          rw [← l2, hm] at g3
          exact same (by rw [Option.some.inj g3]; exact g4)
      by_cases led : t.led = true
      · refine wp_if_neg (by rw [led]; decide) ?_
        try refine wpAny_bind (wpAny_pure ?_)
        exact go_on
      · refine wp_if_pos (by simpa using led) ?_
        refine wpAny_bind (c.unseen hx (fun y hy => ?_) (wp_if_neg (by decide) ?_))
        · obtain ⟨u, hu', rfl⟩ := List.mem_map.mp hy
          have hu2 : u ∈ es.toList := by
            have := (Array.mem_filter.mp (Array.mem_toList_iff.mp hu')).1
            exact Array.mem_toList_iff.mpr this
          rw [R.ents] at hu2
          obtain ⟨m', hm', rfl⟩ := List.mem_map.mp hu2
          exact ⟨m'.2, m'.1, rfl, R.keys m' hm'⟩
        · try refine wpAny_bind (wpAny_pure ?_)
          exact go_on
    · rw [hp]
      dsimp only
      refine wpAny_pure (away fun m hm hk => ?_)
      obtain ⟨i, il, rfl⟩ := List.getElem_of_mem hm
      have g3 : ms[i]? = some ms[i] := List.getElem?_eq_getElem il
      have il2 : i < t.place.toList.length := by rw [Array.length_toList]; omega
      obtain ⟨q, hq, eq⟩ := R.tab.before free (i := i) (by rw [List.getElem?_map, g3, ← hk]; rfl) (List.getElem?_eq_getElem il2)
      have g2 : t.place.toList[i]? = some (way t.mask (knd.hash k) q) := by rw [eq]; exact List.getElem?_eq_getElem il2
      rcases Nat.lt_or_ge q d with z | z
      · exact past q i _ z g2 g3 hk
      · exact bare q i z hq g2 ((ent_hash R.ents g3).trans (congrArg knd.hash hk))
theorem turns_few {m : Nat} (h : MaskOk m) : 10 * SetTable.turns m ≤ 1420 := by
  unfold SetTable.turns
  rcases h with e | e | e <;> omega
/-- .. from the beginning -/
theorem SetIs.search (R : SetIs knd s.heap S ms es ep t) (c : Calm knd) {k : κ} {x : Addr} (hx : knd.is s.heap k x) (hu : knd.room A) {Q : SetFound → Shared → Prop}
    (there : (∃ m ∈ ms, m.2 = k) → Q (.there none) s)
    (away : ∀ K, (∀ m ∈ ms, m.2 ≠ k) → way t.mask (knd.hash k) K ∉ t.place.toList → (∀ q, q < K → way t.mask (knd.hash k) q ∈ t.place.toList) → Q (.free (way t.mask (knd.hash k) K) false) s) :
    wpAny (model P w) A (setSearch S (.ref x) (knd.hash k) true) Q E s := by
  have r := R.room
  obtain ⟨K, hK, free, full⟩ := R.tab.first (by rw [List.length_map]; omega) (knd.hash k)
  have few := turns_few R.tab.mok
  exact R.seek c hx hu hK free full there (fun h => away K h free full) 100000 0 none rfl (Nat.zero_le _) (by omega) fun q _ _ h => absurd h (Nat.not_lt_zero _)
theorem keep_but (c : Calm knd) {h h' : Heap} {o : Obj} (ho : h.get? S = some o) (hd : o.data = .set es ep t) (sb : Heap.SameBut S h h') {k : κ} {x : Addr} (hx : knd.is h k x) : knd.is h' k x :=
  c.stays.stays (fun b u vs n hb hu => (sb.2 b (fun z => by rw [z, ho] at hb; rw [← Option.some.inj hb, hd] at hu; cases hu)).trans hb) hx
/-- the table laid anew -/
theorem SetRaw.relay (R : SetRaw knd s.heap S ms es ep t) (c : Calm knd) (hm : ms.length ≤ t.mask) {wanted M : Nat} (hw : SetTable.sizeAbove wanted - 1 = M) (ok : MaskOk M) (hz : SetTable.sizeAbove wanted ≤ 128) (room : ms.length * 5 < M * 3) {Q : Unit → Shared → Prop}
    (hQ : ∀ h' ms' es' ep' t', Heap.SameBut S s.heap h' → SetIs knd h' S ms' es' ep' t' → ms'.Perm ms → Q () { s with heap := h' }) : wpAny (model P w) A (setRelay S wanted) Q E s := by
  obtain ⟨o, ho, hex, hd⟩ := R.obj
  have n := ents_size R.ents
  obtain ⟨t', order, e, p, T, em, el, _, _⟩ := relaid_ok t (hs := es.map (·.1)) hw ok (by rw [Array.size_map, n]; omega)
  rw [Array.size_map, n] at p
  obtain ⟨ms', hms⟩ : ∃ l, l = order.toList.filterMap fun i => ms[i]? := ⟨_, rfl⟩
  have pm : ms'.Perm ms := by
    have q := p.filterMap fun i => ms[i]?
    rwa [pick_all, ← hms] at q
  have ents : (order.filterMap (es[·]?)).toList = ms'.map (entK knd) := by
    rw [Array.toList_filterMap, hms, List.map_filterMap]
    exact congrArg (fun f => List.filterMap f order.toList) (funext fun i => ents_at R.ents i)
  have hashes : (ms'.map fun m => knd.hash m.2) = order.toList.map fun i => (es.map (·.1)).getD i 0 := by
    rw [hms]
    refine pick_map _ _ _ _ fun i hi => ?_
    have il := List.mem_range.mp (p.mem_iff.mp hi)
    refine ⟨ms[i], List.getElem?_eq_getElem il, ?_⟩
    have g : (es.map (·.1))[i]? = some (knd.hash ms[i].2) := by rw [Array.getElem?_map, ents_at R.ents, List.getElem?_eq_getElem il]; rfl
    rw [Array.getD_eq_getD_getElem?, g]
    rfl
  rw [← hashes] at T
  have n2 : (order.filterMap (es[·]?)).size = es.size := (ents_size ents).trans (pm.length_eq.trans n.symm)
  rw [setRelay_eq]
  refine wpAny_bind (wpAny_setState_of ho hd (R.fits hm) ?_)
  dsimp only
  refine wp_if_neg (by rw [sizeLine_eq]; omega) ?_
  try refine wpAny_bind (wpAny_pure ?_)
  rw [e]
  dsimp only
  refine wpAny_bind (wp_if_neg (by rw [n2]; simp) ?_)
  try refine wpAny_bind (wpAny_pure ?_)
  refine wpAny_pure ?_
  dsimp only
  have few := R.few
  have sb := Heap.SameBut.update s.heap S (Obj.putSet (order.filterMap (es[·]?)) t')
  refine wpAny_storeSet_of ho hd (hQ _ ms' _ (ep + 1) t' sb ⟨⟨⟨_, store_at ho hd, hex, rfl⟩, ents, T, (pm.map (·.2)).nodup_iff.mpr R.once, fun m h => keep_but c ho hd sb (R.keys m (pm.mem_iff.mp h)), ?_, ?_⟩, ?_⟩ pm) (by rw [n2, n, sizeLine_eq]; omega)
  · rw [el]; exact R.led
  · rw [pm.length_eq]; exact few
  · rw [pm.length_eq, em]; exact room
theorem tab_off {hs : List Int} (T : TabOk t hs) : TabOk { t with plain := false } hs := ⟨T.ris, T.dm, T.sz, T.mok, T.bd, T.reach⟩
/-- how full a table is when it is to be laid anew, and how large it gets -/
theorem grows {m n : Nat} (ok : MaskOk m) (h1 : n * 5 < m * 3) (h2 : (n + 1) * 5 ≥ m * 3) (few : n + 1 < 64) : ∃ M, SetTable.sizeAbove (SetTable.grown (n + 1)) - 1 = M ∧ MaskOk M ∧ SetTable.sizeAbove (SetTable.grown (n + 1)) ≤ 128 ∧ (n + 1) * 5 < M * 3 ∧ n + 1 ≤ m := by
  rcases ok with e | e | e
  · obtain rfl : n = 4 := by omega
    exact ⟨31, by rw [size_20], .inr (.inl rfl), by rw [size_20]; decide, by decide, by omega⟩
  · obtain rfl : n = 18 := by omega
    exact ⟨127, by rw [size_76], .inr (.inr rfl), by rw [size_76]; decide, by decide, by omega⟩
  · omega
/-- ADDING -/
theorem SetIs.add (R : SetIs knd s.heap S ms es ep t) (c : Calm knd) {k : κ} {x : Addr} (hx : knd.is s.heap k x) (hu : knd.room A) (few : ms.length + 1 < 64) {Q : Bool → Shared → Prop}
    (hQ : ∀ b h' ms' es' ep' t', Heap.SameBut S s.heap h' → SetIs knd h' S ms' es' ep' t' → ((∃ m ∈ ms, m.2 = k) → ms' = ms) → ((∀ m ∈ ms, m.2 ≠ k) → ms'.Perm ((x, k) :: ms)) → Q b { s with heap := h' }) :
    wpAny (model P w) A (setAddHashed S (.ref x) (knd.hash k)) Q E s := by
  obtain ⟨o, ho, hex, hd⟩ := R.obj
  have n := ents_size R.ents
  unfold setAddHashed
  refine wpAny_holding ?_
  rw [show (100000 : Nat) = 99999 + 1 from rfl, setAddHashedIn_succ]
  refine wpAny_bind (R.read ?_)
  dsimp only
  refine wp_if_neg (by simp [byScan, Value.scannable]) ?_
  try refine wpAny_bind (wpAny_pure ?_)
  refine wpAny_bind (R.search c hx hu (fun h => ?_) fun K none free full => ?_)
  · dsimp only
    exact wpAny_pure (hQ false s.heap ms es ep t (.refl S s.heap) R (fun _ => rfl) fun z => by
      obtain ⟨m, h1, h2⟩ := h
      exact absurd h2 (z m h1))
  dsimp only
  refine wpAny_bind (R.read ?_)
  dsimp only
  obtain ⟨e1, _, T, em, el, _, _, _, ef⟩ := R.tab.put free full
  generalize t.put (way t.mask (knd.hash k) K) = put at e1 T em el ef ⊢
  obtain ⟨t0, p⟩ := put
  dsimp only at e1 T em el ef ⊢
  rw [← e1] at T
  -- whatever the hash is told by
  have either : ∀ F : Bool → Sem Bool, (∀ b, wpAny (model P w) A (F b) Q E s) → wpAny (model P w) A (if t0.plain = true then hashByValue 8 (.ref x) >>= F else pure true >>= F) Q E s := fun F hF => by
    split
    · exact wpAny_bind (c.told hx hF)
    · exact wpAny_bind (wpAny_pure (hF true))
  refine either _ fun b => ?_
  have same : ∀ {Pt : SetTable → Prop}, Pt t0 → Pt { t0 with plain := false } → Pt (if b = true then t0 else { t0 with plain := false }) := fun h1 h2 => by
    cases b
    · exact h2
    · exact h1
  have T1 := same (Pt := fun t => TabOk t _) T (tab_off T)
  have em1 := same (Pt := fun t1 => t1.mask = t.mask) em em
  have el1 := same (Pt := fun t1 => t1.led = t.led) el el
  have ef1 := same (Pt := fun t1 => t1.fill = (ms.map fun m => knd.hash m.2).length + 1) ef ef
  generalize (if b = true then t0 else { t0 with plain := false }) = t1 at T1 em1 el1 ef1 ⊢
  rw [List.length_map] at ef1
  -- the members now
  have pm := put_perm ms p (x, k)
  have ents : (SetTable.insertAt es p (knd.hash k, .ref x)).toList = (ms.take p ++ (x, k) :: ms.drop p).map (entK knd) := by
    rw [SetTable.toList_insertAt, R.ents, List.map_append, List.map_cons, List.map_take, List.map_drop]
    rfl
  have eh : (ms.take p ++ (x, k) :: ms.drop p).map (fun m => knd.hash m.2) = (ms.map fun m => knd.hash m.2).take p ++ knd.hash k :: (ms.map fun m => knd.hash m.2).drop p := by
    rw [List.map_append, List.map_cons, List.map_take, List.map_drop]
  rw [← eh] at T1
  generalize SetTable.insertAt es p (knd.hash k, .ref x) = es1 at ents ⊢
  generalize ms.take p ++ (x, k) :: ms.drop p = ms1 at pm ents T1
  have n1 : ms1.length = ms.length + 1 := pm.length_eq
  refine wpAny_bind (wpAny_storeSet_of ho hd ?_ (by rw [ents_size ents, n1, sizeLine_eq]; omega))
  have sb := Heap.SameBut.update s.heap S (Obj.putSet es1 t1)
  have raw : SetRaw knd (s.heap.update S (Obj.putSet es1 t1)) S ms1 es1 (ep + 1) t1 := by
    refine ⟨⟨_, store_at ho hd, hex, rfl⟩, ents, T1, (pm.map (·.2)).nodup_iff.mpr (List.nodup_cons.mpr ⟨fun z => ?_, R.once⟩), fun m h => ?_, by rw [el1]; exact R.led, by rw [n1]; exact few⟩
    · obtain ⟨m, h1, h2⟩ := List.mem_map.mp z
      exact none m h1 h2
    · rcases List.mem_cons.mp (pm.mem_iff.mp h) with z | z
      · rw [z]; exact keep_but c ho hd sb hx
      · exact keep_but c ho hd sb (R.keys m z)
  generalize s.heap.update S (Obj.putSet es1 t1) = h1 at sb raw ⊢
  have gone : (∃ m ∈ ms, m.2 = k) → False := fun ⟨m, a, b⟩ => none m a b
  have room := R.room
  by_cases full : t1.tooFull = true
  · have f2 : (ms.length + 1) * 5 ≥ t.mask * 3 := by
      unfold SetTable.tooFull at full
      rw [decide_eq_true_eq, ef1, em1] at full
      exact full
    obtain ⟨M, g1, g2, g3, g4, g5⟩ := grows R.tab.mok room f2 few
    have laid : wpAny (model P w) A (setRelay S (SetTable.grown (es.size + 1))) (fun _ s' => wpAny (model P w) A (pure true) Q E s') E { s with heap := h1 } := by
      rw [n]
      exact SetRaw.relay (s := { s with heap := h1 }) raw c (by rw [em1, n1]; exact g5) g1 g2 g3 (by rw [n1]; exact g4) fun h2 ms2 es2 ep2 t2 sb2 R2 p2 => wpAny_pure (hQ true h2 ms2 es2 ep2 t2 (sb.trans sb2) R2 (fun z => (gone z).elim) fun _ => p2.trans pm)
    first
      | exact wpAny_bind (wp_if_pos (by simp [full]) laid)
      | exact wp_if_pos (by simp [full]) (wpAny_bind laid)
  · have r1 : ms1.length * 5 < t1.mask * 3 := by
      unfold SetTable.tooFull at full
      rw [decide_eq_true_eq, ef1] at full
      rw [n1]
      omega
    have done : wpAny (model P w) A (pure true) Q E { s with heap := h1 } := wpAny_pure (hQ true h1 ms1 es1 (ep + 1) t1 sb ⟨raw, r1⟩ (fun z => (gone z).elim) fun _ => pm)
    first
      | exact wp_if_neg (by simp [full]) done
      | exact wpAny_bind (wp_if_neg (by simp [full]) (wpAny_pure done))

/-! ### a set that is built from objects, one by one -/
/-- what it has got from the first i of them -/
structure Got1 (ks : List (Addr × κ)) (i : Nat) (L : List (Addr × κ)) : Prop where
  sub : ∀ m ∈ L, m ∈ ks.take i
  all : ∀ m ∈ ks.take i, m.2 ∈ L.map (·.2)
theorem Got1.next {ks L L' : List (Addr × κ)} {i : Nat} {x : Addr × κ} (g : Got1 ks i L) (h : ks[i]? = some x) (sub : ∀ m ∈ L', m = x ∨ m ∈ L) (all : ∀ y, y = x.2 ∨ y ∈ L.map (·.2) → y ∈ L'.map (·.2)) : Got1 ks (i + 1) L' := by
  have e : ks.take (i + 1) = ks.take i ++ [x] := by rw [List.take_succ, h]; rfl
  refine ⟨fun m hm => ?_, fun m hm => all _ ?_⟩ <;> rw [e] at *
  · exact List.mem_append.mpr ((sub m hm).elim (fun z => .inr (List.mem_singleton.mpr z)) fun z => .inl (g.sub m z))
  · exact (List.mem_append.mp hm).elim (fun z => .inr (g.all m z)) fun z => .inl (by rw [List.mem_singleton.mp z])
def SIk (knd : HeapKind P w κ) (S : Addr) (ks : List (Addr × κ)) (h : Heap) (i : Nat) : Prop := ∃ L es ep t, SetIs knd h S L es ep t ∧ Got1 ks i L
theorem SetIs.fresh {h : Heap} (ho : h.get? S = some (set0 w)) : SetIs knd h S [] #[] 0 (.fresh 0 0 (!w.params.followText "set-order")) where
  obj := ⟨_, ho, ⟨rfl, rfl, rfl⟩, rfl⟩
  ents := rfl
  tab := ⟨.nil, rfl, rfl, .inl rfl, fun _ z => (by cases z), fun _ _ _ z => (by cases z)⟩
  once := .nil
  keys := fun _ z => (by cases z)
  led := by
    cases c : w.params.followText "set-order" with
    | true => exact .inl rfl
    | false => exact .inr (by rfl)
  few := by show 0 < 64; decide
  room := by show 0 * 5 < 7 * 3; decide
theorem builds_keys (c : Calm knd) {h0 : Heap} {ks : List (Addr × κ)} {items : Array Value} (hit : ∀ (i : Nat) (v : Value), items[i]? = some v → ∃ p, ks[i]? = some p ∧ v = .ref p.1) (hk : ∀ p ∈ ks, knd.is h0 p.2 p.1) (hu : knd.room A)
    (few : ∀ l : List κ, l.Nodup → (∀ x ∈ l, x ∈ ks.map (·.2)) → l.length < 60) : Builds P w A h0 S items (SIk knd S ks) := by
  have up : ∀ {h' : Heap}, (∀ b o, h0.get? b = some o → h'.get? b = some o) → ∀ p ∈ ks, knd.is h' p.2 p.1 := fun k p hp => c.stays.stays (fun b o _ _ z _ => k b o z) (hk p hp)
  refine ⟨fun h ho _ => ⟨[], _, _, _, .fresh ho, fun _ z => (by cases z), fun _ z => (by simp at z)⟩, fun h h' i ⟨L, es, ep, t, R, g⟩ kS k => ?_, fun i v s E Q hv ⟨L, es, ep, t, R, g⟩ k hq => ?_⟩
  · obtain ⟨o, ho, r⟩ := R.obj
    exact ⟨L, es, ep, t, { R with obj := ⟨o, kS o ho, r⟩, keys := fun m hm => up k m (List.mem_of_mem_take (g.sub m hm)) }, g⟩
  · obtain ⟨p, hp, rfl⟩ := hit i v hv
    have hx := up k p (List.mem_of_getElem? hp)
    have len := few (L.map (·.2)) R.once fun y hy => by
      obtain ⟨m, hm, rfl⟩ := List.mem_map.mp hy
      exact List.mem_map.mpr ⟨m, List.mem_of_mem_take (g.sub m hm), rfl⟩
    rw [List.length_map] at len
    unfold setAdd
    refine wpAny_holding (wpAny_bind (knd.pyHash hu hx (SetIs.add (s := { s with toks := s.toks + knd.draws p.2 }) R c hx hu (by omega) fun b h' L' es' ep' t' sb R' old new => hq b h' _ (Nat.le_add_right _ _) sb ⟨L', es', ep', t', R', ?_⟩)))
    rcases Classical.em (∃ m ∈ L, m.2 = p.2) with z | z
    · rw [old z]
      refine g.next hp (fun m hm => .inr hm) fun y hy => hy.elim (fun e => ?_) id
      obtain ⟨m, h1, h2⟩ := z
      rw [e, ← h2]
      exact List.mem_map.mpr ⟨m, h1, rfl⟩
    · have pm := new fun m hm e => z ⟨m, hm, e⟩
      exact g.next hp (fun m hm => List.mem_cons.mp (pm.mem_iff.mp hm)) fun y hy => (pm.map (·.2)).mem_iff.mpr (List.mem_cons.mpr hy)
end

/-! ### tuples of texts -/
section
variable {P : Program} {w : World}
abbrev TU (P : Program) (w : World) : HeapKind P w (List Str) := tupleKind (strKind P w)
/-- the tuple at a has the texts k -/
abbrev IsU (P : Program) (w : World) (h : Heap) (k : List Str) (a : Addr) : Prop := IsTupleKey (strKind P w) h k a
theorem isStr_shapeU {k : Str} {v : Value} (h : (strKind P w).is k v = true) : ∃ t, v = Value.str k t := by
  cases v with
  | str y t =>
    have e : (y == k) = true := h
    exact ⟨t, by rw [beq_iff_eq.mp e]⟩
  | _ => cases h
theorem all_strU {k : List Str} {vs : List Value} (h : ItemsAre (strKind P w) k vs) : ∀ v ∈ vs, ∃ x t, v = Value.str x t := by
  induction h with
  | nil => exact fun v z => (by cases z)
  | cons h1 _ ih => exact fun v z => (List.mem_cons.mp z).elim (fun e => by
      obtain ⟨t, q⟩ := isStr_shapeU h1
      exact ⟨_, t, e.trans q⟩) (ih v)
theorem isU_keep {h h' : Heap} {k : List Str} {b : Addr} (x : IsU P w h k b) (hk : ∀ c o, h.get? c = some o → h'.get? c = some o) : IsU P w h' k b := (tupleKind_stays (knd := strKind P w)).stays (fun c o _ _ z _ => hk c o z) x
theorem calmU : Calm (TU P w) where
  stays := tupleKind_stays
  plain := fun {A E s k x Q} hx h => by
    have ty := IsTupleKey.typeIs hx
    obtain ⟨o, its, n, ho, _, hd, hi⟩ := hx
    unfold ofAClassStatement
    refine wpAny_bind (wpAny_typeOf ty ?_)
    dsimp only
    rw [if_pos (by decide)]
    refine wpAny_bind (wpAny_pure ?_)
    rw [if_neg (by decide)]
    refine wpAny_bind (wpAny_seqItems ho hd ?_)
    dsimp only
    refine wpAny_bind ?_
    rw [← Array.forIn_toList]
    refine idle_for (fun v hv R hR => ?_) (wpAny_pure h)
    obtain ⟨y, u, rfl⟩ := all_strU hi v hv
    refine wpAny_bind (wpAny_of_eq (by unfold ofAClassStatement; rfl) ?_)
    rw [if_neg (by decide)]
    exact wpAny_pure hR
  told := fun {A E s k x Q} hx h => by
    have ty := IsTupleKey.typeIs hx
    obtain ⟨o, its, n, ho, _, hd, hi⟩ := hx
    unfold hashByValue
    refine wpAny_bind (wpAny_specialOf ty F.slot_tuple_hash.lookup ?_)
    dsimp only
    refine wpAny_bind (wpAny_seqItems ho hd ?_)
    refine wpAny_bind ?_
    rw [Option.getD_some, ← Array.forIn_toList]
    cases e : its.toList with
    | nil =>
      rw [List.forIn_nil]
      exact wpAny_pure (wpAny_pure (h true))
    | cons v rest =>
      obtain ⟨y, u, rfl⟩ := all_strU hi v (by rw [e]; exact List.mem_cons_self)
      rw [List.forIn_cons]
      refine wpAny_bind (wpAny_bind (wpAny_of_eq (hashByValue_scannable _ rfl) ?_))
      exact wpAny_pure (wpAny_pure (wpAny_pure (h false)))
end
end UpS

/-! text UpOrd -/
set_option Elab.async false
set_option linter.all false
set_option maxRecDepth 100000
set_option maxHeartbeats 2000000
/-! orders and sorting, in plain words -/
namespace Up
open PySem
structure Ordr {α : Type} (lt : α → α → Bool) : Prop where
  irr : ∀ a, lt a a = false
  tr : ∀ a b c, lt a b = true → lt b c = true → lt a c = true
  tot : ∀ a b, lt a b = false → lt b a = false → a = b
section
variable {α : Type} {lt : α → α → Bool}
theorem Ordr.asy (O : Ordr lt) {a b : α} (h : lt a b = true) : lt b a = false := by
  cases q : lt b a with
  | false => rfl
  | true => rw [← O.irr a, O.tr a b a h q]
theorem Ordr.ntr (O : Ordr lt) {a b c : α} (h1 : lt b a = false) (h2 : lt c b = false) : lt c a = false := by
  cases q : lt c a with
  | false => rfl
  | true =>
    cases p : lt a b with
    | true => rw [O.tr c a b q p] at h2; cases h2
    | false => rw [O.tot a b p h1, h2] at q; cases q
def ins (lt : α → α → Bool) (x : α) : List α → List α
  | [] => [x]
  | y :: r => if lt y x = true then y :: ins lt x r else x :: y :: r
def isort (lt : α → α → Bool) (l : List α) : List α := l.foldr (ins lt) []
theorem ins_perm (x : α) : ∀ l : List α, (ins lt x l).Perm (x :: l)
  | [] => List.Perm.refl _
  | y :: r => by
    unfold ins
    split
    · exact ((ins_perm x r).cons y).trans (List.Perm.swap x y r)
    · exact List.Perm.refl _
theorem isort_perm : ∀ l : List α, (isort lt l).Perm l
  | [] => List.Perm.refl _
  | x :: l => (ins_perm x _).trans ((isort_perm l).cons x)
theorem mem_isort {l : List α} {x : α} : x ∈ isort lt l ↔ x ∈ l := (isort_perm l).mem_iff
theorem len_isort (l : List α) : (isort lt l).length = l.length := (isort_perm l).length_eq
def Srt (lt : α → α → Bool) (l : List α) : Prop := l.Pairwise fun a b => lt b a = false
def Sst (lt : α → α → Bool) (l : List α) : Prop := l.Pairwise fun a b => lt a b = true
theorem ins_srt (O : Ordr lt) (x : α) : ∀ l : List α, Srt lt l → Srt lt (ins lt x l)
  | [], _ => List.pairwise_singleton _ _
  | y :: r, h => by
    obtain ⟨h1, h2⟩ := List.pairwise_cons.mp h
    unfold ins
    by_cases c : lt y x = true
    · rw [if_pos c]
      refine List.pairwise_cons.mpr ⟨fun z hz => ?_, ins_srt O x r h2⟩
      rcases List.mem_cons.mp ((ins_perm x r).mem_iff.mp hz) with e | e
      · rw [e]; exact O.asy c
      · exact h1 z e
    · rw [if_neg c]
      have c' : lt y x = false := by simpa using c
      refine List.pairwise_cons.mpr ⟨fun z hz => ?_, h⟩
      rcases List.mem_cons.mp hz with e | e
      · rw [e]; exact c'
      · exact O.ntr c' (h1 z e)
theorem isort_srt (O : Ordr lt) : ∀ l : List α, Srt lt (isort lt l)
  | [] => List.Pairwise.nil
  | x :: l => ins_srt O x _ (isort_srt O l)
theorem srt_unique (O : Ordr lt) {l r : List α} (p : l.Perm r) (h1 : Srt lt l) (h2 : Srt lt r) : l = r :=
  List.Perm.eq_of_pairwise (le := fun a b => lt b a = false) (fun a b _ _ x y => O.tot a b y x) h1 h2 p
theorem isort_unique (O : Ordr lt) {l r : List α} (p : l.Perm r) (h1 : Srt lt l) : l = isort lt r := srt_unique O (p.trans (isort_perm r).symm) h1 (isort_srt O r)
theorem Sst.srt (O : Ordr lt) {l : List α} (h : Sst lt l) : Srt lt l := List.Pairwise.imp (fun q => O.asy q) h
theorem Sst.nodup (O : Ordr lt) {l : List α} (h : Sst lt l) : l.Nodup := List.Pairwise.imp (fun {a b} q e => by rw [e, O.irr] at q; cases q) h
theorem Srt.sst (O : Ordr lt) : ∀ {l : List α}, Srt lt l → l.Nodup → Sst lt l
  | [], _, _ => List.Pairwise.nil
  | a :: l, h, n => by
    obtain ⟨h1, h2⟩ := List.pairwise_cons.mp h
    obtain ⟨n1, n2⟩ := List.nodup_cons.mp n
    refine List.pairwise_cons.mpr ⟨fun b hb => ?_, Srt.sst O h2 n2⟩
    cases q : lt a b with
    | true => rfl
    | false => exact absurd (O.tot a b q (h1 b hb) ▸ hb) n1
theorem isort_sst (O : Ordr lt) {l : List α} (n : l.Nodup) : Sst lt (isort lt l) := (isort_srt O l).sst O ((isort_perm l).nodup_iff.mpr n)
theorem isort_self (O : Ordr lt) {l : List α} (h : Srt lt l) : isort lt l = l := (isort_unique O (List.Perm.refl l) h).symm
/-- strictly sorted lists with the same members are the same -/
theorem sst_ext (O : Ordr lt) {l r : List α} (h1 : Sst lt l) (h2 : Sst lt r) (h : ∀ x, x ∈ l ↔ x ∈ r) : l = r :=
  srt_unique O ((List.perm_ext_iff_of_nodup (h1.nodup O) (h2.nodup O)).mpr h) (h1.srt O) (h2.srt O)
theorem Sst.sub {l r : List α} (h : Sst lt r) (s : l.Sublist r) : Sst lt l := List.Pairwise.sublist s h
end

/-! ### the distinct ones -/
def dedup {α : Type} [DecidableEq α] : List α → List α
  | [] => []
  | x :: l => if x ∈ dedup l then dedup l else x :: dedup l
section
variable {α : Type} [DecidableEq α]
theorem mem_dedup {x : α} : ∀ {l : List α}, x ∈ dedup l ↔ x ∈ l
  | [] => Iff.rfl
  | y :: l => by
    unfold dedup
    by_cases h : y ∈ dedup l
    · rw [if_pos h, mem_dedup, List.mem_cons]
      exact ⟨.inr, fun z => z.elim (fun e => e ▸ mem_dedup.mp h) id⟩
    · rw [if_neg h, List.mem_cons, List.mem_cons, mem_dedup]
theorem nodup_dedup : ∀ l : List α, (dedup l).Nodup
  | [] => List.nodup_nil
  | y :: l => by
    unfold dedup
    by_cases h : y ∈ dedup l
    · rw [if_pos h]; exact nodup_dedup l
    · rw [if_neg h]; exact List.nodup_cons.mpr ⟨h, nodup_dedup l⟩
theorem dedup_self : ∀ {l : List α}, l.Nodup → dedup l = l
  | [], _ => rfl
  | y :: l, n => by
    obtain ⟨a, b⟩ := List.nodup_cons.mp n
    unfold dedup
    rw [if_neg (fun z => a (mem_dedup.mp z)), dedup_self b]
end
def sset {α : Type} [DecidableEq α] (lt : α → α → Bool) (l : List α) : List α := isort lt (dedup l)
section
variable {α : Type} [DecidableEq α] {lt : α → α → Bool}
theorem mem_sset {x : α} {l : List α} : x ∈ sset lt l ↔ x ∈ l := by unfold sset; rw [mem_isort, mem_dedup]
theorem sset_sst (O : Ordr lt) (l : List α) : Sst lt (sset lt l) := isort_sst O (nodup_dedup l)
theorem sset_unique (O : Ordr lt) {l r : List α} (h : Sst lt l) (m : ∀ x, x ∈ l ↔ x ∈ r) : l = sset lt r := sst_ext O h (sset_sst O r) fun x => by rw [m, mem_sset]
theorem sset_self (O : Ordr lt) {l : List α} (h : Sst lt l) : sset lt l = l := (sset_unique O h fun _ => Iff.rfl).symm
theorem sset_of (O : Ordr lt) {l r : List α} (n : l.Nodup) (m : ∀ x, x ∈ l ↔ x ∈ r) : isort lt l = sset lt r := sset_unique O (isort_sst O n) fun x => by rw [mem_isort, m]
end

/-! ### texts, tuples of texts -/
open UpS
theorem ordS : Ordr ltS where
  irr a := by unfold ltS; simpa using List.lt_irrefl a.cps.toList
  tr a b c h1 h2 := by
    unfold ltS at *
    simp only [decide_eq_true_eq] at *
    exact List.lt_trans h1 h2
  tot a b h1 h2 := by
    unfold ltS at *
    simp only [decide_eq_false_iff_not] at *
    have e : a.cps.toList = b.cps.toList := List.le_antisymm (List.not_lt.mp h2) (List.not_lt.mp h1)
    cases a; cases b
    have := Array.toList_inj.mp e
    simp only at this
    rw [this]
theorem ltT_irr : ∀ a : List Str, ltT a a = false
  | [] => rfl
  | x :: a => by unfold ltT; rw [if_pos rfl]; exact ltT_irr a
theorem ltT_tr : ∀ a b c : List Str, ltT a b = true → ltT b c = true → ltT a c = true
  | [], [], _, h, _ => by cases h
  | [], _ :: _, [], _, h => by cases h
  | [], _ :: _, _ :: _, _, _ => rfl
  | _ :: _, [], _, h, _ => by cases h
  | _ :: _, _ :: _, [], _, h => by cases h
  | x :: a, y :: b, z :: c, h1, h2 => by
    unfold ltT at h1 h2 ⊢
    by_cases e : x = y
    · subst e
      rw [if_pos rfl] at h1
      by_cases e2 : x = z
      · subst e2
        rw [if_pos rfl] at h2 ⊢
        exact ltT_tr a b c h1 h2
      · rw [if_neg e2] at h2 ⊢; exact h2
    · rw [if_neg e] at h1
      by_cases e2 : y = z
      · subst e2
        rw [if_neg e]; exact h1
      · rw [if_neg e2] at h2
        have h3 := ordS.tr _ _ _ h1 h2
        have e3 : x ≠ z := fun e3 => by rw [e3, ordS.irr] at h3; cases h3
        rw [if_neg e3]; exact h3
theorem ltT_tot : ∀ a b : List Str, ltT a b = false → ltT b a = false → a = b
  | [], [], _, _ => rfl
  | [], _ :: _, h, _ => by cases h
  | _ :: _, [], _, h => by cases h
  | x :: a, y :: b, h1, h2 => by
    unfold ltT at h1 h2
    by_cases e : x = y
    · subst e
      rw [if_pos rfl] at h1 h2
      rw [ltT_tot a b h1 h2]
    · rw [if_neg e] at h1
      rw [if_neg (Ne.symm e)] at h2
      exact absurd (ordS.tot _ _ h1 h2) e
theorem ordT : Ordr ltT := ⟨ltT_irr, ltT_tr, ltT_tot⟩
end Up

/-! text UpSetD -/
set_option Elab.async false
set_option linter.all false
set_option maxRecDepth 100000
set_option maxHeartbeats 4000000
/-! set(..) and sorted(..), as calls by data -/
namespace UpS
open PySem PySem.Spec PySem.W PyProof.Rows L2 Up

/-- the set at a holds the values us, in its table's order -/
def SetW (w : World) (h : Heap) (a : Addr) (us : List Value) : Prop :=
  ∃ o es ep t, h.get? a = some o ∧ o.ExactSet ∧ o.data = .set es ep t ∧ es.toList.map (·.2) = us ∧ t.fits es.size = true ∧ es.size < scanBound ∧ Ris t.place.toList ∧ (w.params.followText "set-order" = true ∨ t.led = true)
def SO (w : World) (a : Addr) (vs : List V) : HO := .ext fun h => ∃ us, Vals vs us ∧ SetW w h a us
theorem so_new {P : Program} {w : World} {H : Hp} {h : Heap} {a : Addr} {vs : List V} {us : List Value} (r : Vals vs us) (S : SetW w h a us) : ObjOk P w H h a (SO w a vs) := by
  have ⟨o, es, ep, t, ho, q⟩ := S
  refine ⟨⟨us, r, S⟩, ⟨o, ho⟩, fun h1 h2 ⟨us', r', o', es', ep', t', ho', q'⟩ k => ⟨us', r', o', es', ep', t', k o' ho', q'⟩⟩

theorem vals_strs : ∀ {xs : List Str} {us : List Value}, Vals (xs.map V.str) us → ∀ (i : Nat) (v : Value), us[i]? = some v → ∃ (x : Str) (tk : Tok), v = Value.str x tk ∧ xs[i]? = some x
  | [], _, .nil, i, v, h => by simp at h
  | x :: xs, _, .cons r t, 0, v, h => by
    obtain ⟨tk, rfl⟩ := r
    simp at h
    exact ⟨x, tk, h.symm, rfl⟩
  | x :: xs, _, .cons r t, i + 1, v, h => by
    obtain ⟨y, tk, e, q⟩ := vals_strs t i v (by simpa using h)
    exact ⟨y, tk, e, by simpa using q⟩
theorem keyS_vals : ∀ {l : List (Int × Value)}, (∀ e ∈ l, ∃ tk, e.2 = Value.str (keyS e) tk) → Vals ((l.map keyS).map V.str) (l.map (·.2))
  | [], _ => .nil
  | e :: l, g => .cons (g e List.mem_cons_self) (keyS_vals fun u z => g u (List.mem_cons_of_mem _ z))
theorem TxAt.w {P : Program} {w : World} {h : Heap} {a : Addr} {l : List Str} (R : TxAt P w h a l) (hl : l.length < scanBound) : ∃ (ys : List Str) (us : List Value), ys.Nodup ∧ (∀ k, k ∈ ys ↔ k ∈ l) ∧ Vals (ys.map V.str) us ∧ SetW w h a us := by
  obtain ⟨D, ho, T, p⟩ := R
  have n := p.length_eq
  have z : D.1.size = (keysD D).length := T.ok.sz
  exact ⟨keysD D, _, T.nd, fun k => p.mem_iff, keyS_vals T.txt, _, D.1, D.2.1, D.2.2, ho, ⟨rfl, rfl, rfl⟩, rfl, rfl, T.ok.fit, by omega, T.ris, T.led⟩
theorem items_of_valsU {P : Program} {w : World} : ∀ {k : List Str} {us : List Value}, Vals (k.map V.str) us → ItemsAre (PySem.strKind P w) k us
  | [], _, .nil => .nil
  | n :: k, _, .cons r t => by
    obtain ⟨tk, rfl⟩ := r
    exact .cons (strKind_is P w n tk) (items_of_valsU t)
theorem refs_of_valsU : ∀ {ks : List (Addr × List Str)} {us : List Value}, Vals (ks.map fun p => V.ref p.1) us → us = ks.map fun p => Value.ref p.1
  | [], _, .nil => rfl
  | p :: ks, _, .cons r t => by
    cases r
    rw [refs_of_valsU t] <;> rfl
theorem vals_of_refsU : ∀ (ks : List (Addr × List Str)), Vals (ks.map fun p => V.ref p.1) (ks.map fun p => Value.ref p.1)
  | [] => .nil
  | p :: ks => .cons rfl (vals_of_refsU ks)
theorem SetIs.w {P : Program} {w : World} {κ : Type} [DecidableEq κ] {knd : HeapKind P w κ} {h : Heap} {a : Addr} {L : List (Addr × κ)} {es : Array (Int × Value)} {ep : Nat} {t : SetTable} (R : SetIs knd h a L es ep t) : SetW w h a (L.map fun p => Value.ref p.1) := by
  obtain ⟨o, ho, hx, hd⟩ := R.obj
  have n := ents_size R.ents
  have few := R.few
  refine ⟨o, es, ep, t, ho, hx, hd, ?_, R.fits, by unfold scanBound; omega, R.tab.ris, R.led⟩
  rw [R.ents, List.map_map]
  rfl
section
variable {X : Cx}
theorem Inv.isU {pins : List (Addr × Obj)} {σ : L2.St} {H : Hp} {s : Shared} {b : Addr} {k : List Str} (I : Inv X pins σ H s) (h : SqT X.K H b (k.map V.str)) : IsU X.prog X.w s.heap k b := by
  obtain ⟨its, r, ⟨o, ho, hc, n, hd⟩, _⟩ := I.tuple h
  exact ⟨o, its.toArray, n, ho, hc, hd, by simpa using items_of_valsU r⟩
/-- set(xs), xs a list or a tuple of texts, or a list of tuples of texts -/
def rSet (K : PySem.W.Frag) (w : World) : List V → Hp → VK → Prop := fun xs H Q => ∃ l, xs = [V.ref l] ∧
  ((∃ ts : List Str, (SqL K H l (ts.map V.str) ∨ SqT K H l (ts.map V.str)) ∧ ts.length < 4000 ∧ ∀ (a : Addr) (ys : List Str), H a = none → ys.Nodup → (∀ k, k ∈ ys ↔ k ∈ ts) → Q (.ref a) (upd H a (SO w a (ys.map V.str)))) ∨
  (∃ ks : List (Addr × List Str), SqL K H l (ks.map fun p => V.ref p.1) ∧ (∀ p ∈ ks, SqT K H p.1 (p.2.map V.str)) ∧ (∀ l : List (List Str), l.Nodup → (∀ x ∈ l, x ∈ ks.map (·.2)) → l.length < 60) ∧
    ∀ (a : Addr) (L : List (Addr × List Str)), H a = none → (L.map (·.2)).Nodup → (∀ p ∈ L, p ∈ ks) → (∀ p ∈ ks, p.2 ∈ L.map (·.2)) → Q (.ref a) (upd H a (SO w a (L.map fun p => V.ref p.1)))))
theorem cr_set (hc : X.calm = true) (hu : X.A.units + 64 < cLine) : CallR X (.type "set") (rSet X.K X.w) := by
  intro pins s σ H xs us Q I r h
  have hn : H s.heap.objs.size = none := I.hok.fresh (Nat.le_refl _)
  obtain ⟨l, rfl, h⟩ := h
  rw [Vals.ref1 r]
  rcases h with ⟨ts, hl, ht, q⟩ | ⟨ks, hl, hk, hf, q⟩
  · have fin : ∀ (its : List Value), Vals (ts.map V.str) its → ∀ h' tk, SIs X.prog X.w s.heap.objs.size ts h' its.toArray.size → (∀ b o, s.heap.get? b = some o → h'.get? b = some o) →
        EP X pins σ Q (.ref s.heap.objs.size) { s with heap := h', toks := tk } := fun its rv h' tk ⟨l, R, ml, nl⟩ k => by
      have hsz : its.toArray.size = ts.length := by
        have := rv.length
        rw [List.length_map] at this
        simp [this]
      obtain ⟨ys, us2, nd, m, rv2, S⟩ := R.w (by unfold scanBound; omega)
      refine ⟨.ref s.heap.objs.size, upd H s.heap.objs.size (SO X.w s.heap.objs.size (ys.map V.str)), I.laid (t' := tk) k (Nat.le_refl _) (so_new rv2 S), rfl, q _ ys hn nd fun k => ?_⟩
      rw [m, ml, hsz, List.take_length]
    rcases hl with hl | hl
    · obtain ⟨its, rv, pl, hz⟩ := I.list hl
      exact call_set_list (P := X.prog) (I.ok.hd hc) pl.isList (builds_strs (xs := ts) (fun i v hv => vals_strs rv i v (by simpa using hv)) (by unfold scanBound; omega)) (fin its rv)
    · obtain ⟨its, rv, ⟨o, ho, hc', n, hd⟩, hz⟩ := I.tuple hl
      exact call_set_tuple (P := X.prog) (I.ok.hd hc) ⟨o, ho, hc', n, hd⟩ (builds_strs (xs := ts) (fun i v hv => vals_strs rv i v (by simpa using hv)) (by unfold scanBound; omega)) (fin its rv)
  · obtain ⟨its, rv, pl, hz⟩ := I.list hl
    have e := refs_of_valsU rv
    subst e
    refine call_set_list (P := X.prog) (I.ok.hd hc) pl.isList (builds_keys calmU (ks := ks) (fun i v hv => ?_) (fun p hp => Inv.isU I (hk p hp)) ?_ hf) fun h' tk ⟨L, es, ep, t, R, g⟩ k => ?_
    · have hv' : (ks.map fun p => Value.ref p.1)[i]? = some v := by simpa using hv
      rw [List.getElem?_map] at hv'
      cases hp : ks[i]? with
      | none => rw [hp] at hv'; cases hv'
      | some p => rw [hp] at hv'; cases hv'; exact ⟨p, rfl, rfl⟩
    · show X.A.in1.in1.in1.units < cLine; simp; omega
    · refine ⟨.ref s.heap.objs.size, upd H s.heap.objs.size (SO X.w s.heap.objs.size (L.map fun p => V.ref p.1)), I.laid (t' := tk) k (Nat.le_refl _) (so_new (vals_of_refsU L) R.w), rfl, q _ L hn R.once (fun p hp => List.mem_of_mem_take (g.sub p hp)) fun p hp => ?_⟩
      have hsz : (ks.map fun p => Value.ref p.1).toArray.size = ks.length := by simp
      rw [hsz] at g
      exact g.all p (by rw [List.take_length]; exact hp)

/-! ### gathering -/
/-- what is gathered at a: some order of vs -/
def Gath (K : PySem.W.Frag) (w : World) (H : Hp) (a : Addr) (vs : List V) : Prop := SqL K H a vs ∨ SqT K H a vs ∨ H a = some (SO w a vs)
theorem vals_perm : ∀ {us us' : List Value}, us'.Perm us → ∀ {vs : List V}, Vals vs us → ∃ vs', vs'.Perm vs ∧ Vals vs' us' := by
  intro us us' p
  induction p with
  | nil => intro vs r; exact ⟨vs, .refl _, r⟩
  | cons x p ih =>
    intro vs r
    cases r with
    | cons r t =>
      obtain ⟨vs', p', r'⟩ := ih t
      exact ⟨_, p'.cons _, .cons r r'⟩
  | swap x y l =>
    intro vs r
    cases r with
    | cons r1 t =>
      cases t with
      | cons r2 t => exact ⟨_, List.Perm.swap _ _ _, .cons r2 (.cons r1 t)⟩
  | trans p1 p2 ih1 ih2 =>
    intro vs r
    obtain ⟨vs1, q1, r1⟩ := ih2 r
    obtain ⟨vs2, q2, r2⟩ := ih1 r1
    exact ⟨vs2, q2.trans q1, r2⟩
theorem collect_gath {pins : List (Addr × Obj)} {σ : L2.St} {H : Hp} {s : Shared} {a : Addr} {vs : List V} {A : Around} (I : Inv X pins σ H s) (hA : A.handled = none) (g : Gath X.K X.w H a vs) (E' : Value → Shared → Prop) (Q' : List Value → Shared → Prop)
    (h : ∀ s' us, Keeps s s' → us.length ≤ sizeLine → (∃ vs', vs'.Perm vs ∧ Vals vs' us) → Q' us s') : wpAny (model X.prog X.w) A (collect (.ref a)) Q' E' s := by
  rcases g with g | g | g
  · obtain ⟨its, rv, ⟨o, n, ho, hc, hd, hs⟩, hz⟩ := I.list g
    have hl : its.length ≤ sizeLine := by rw [← rv.length]; exact hz
    refine wpAny_collect_seq a (.inl rfl) ho hc hs (fun h' k => ?_) (by simpa using hl)
    exact h _ _ ⟨k, rfl, rfl⟩ (by simpa using hl) ⟨vs, .refl _, by simpa using rv⟩
  · obtain ⟨its, rv, ⟨o, ho, hc, n, hs⟩, hz⟩ := I.tuple g
    have hl : its.length ≤ sizeLine := by rw [← rv.length]; exact hz
    refine wpAny_collect_seq a (.inr rfl) ho hc hs (fun h' k => ?_) (by simpa using hl)
    exact h _ _ ⟨k, rfl, rfl⟩ (by simpa using hl) ⟨vs, .refl _, by simpa using rv⟩
  · obtain ⟨us, rv, o, es, ep, t, ho, hx, hd, hu, hf, hsz, hr, hl⟩ := (I.hok a _ g).1
    refine collect_set hA ⟨o, ho, hx.1, hd⟩ hf hsz hr hl fun s' out k z g1 o1 pm => ?_
    rw [hu] at pm
    obtain ⟨vs', p', r'⟩ := vals_perm pm rv
    refine h s' out ⟨k, g1, o1⟩ ?_ ⟨vs', p', r'⟩
    have : us.length = es.size := by rw [← hu]; simp
    rw [pm.length_eq, this]
    exact fits_of_scanBound hsz

/-! ### sorted -/
theorem hok_free {P : Program} {w : World} {H : Hp} {h : Heap} {a : Addr} (x : HOk P w H h) (e : h.get? a = none) : H a = none := by
  cases q : H a with
  | none => rfl
  | some u =>
    exfalso
    have y := x a u q
    have key : ∃ o, h.get? a = some o := by
      cases u with
      | lst xs => obtain ⟨_, _, _, _, e⟩ := y; exact ⟨_, e⟩
      | tup xs => obtain ⟨_, _, _, o, e, _⟩ := y; exact ⟨_, e⟩
      | dK kvs => obtain ⟨_, _, _, _, o, _, _, e, _⟩ := y; exact ⟨_, e⟩
      | dT kvs => obtain ⟨_, _, _, _, o, _, _, e, _⟩ := y; exact ⟨_, e⟩
      | set S n => obtain ⟨o, _, _, _, e, _⟩ := y; exact ⟨_, e⟩
      | ins C dx fs => obtain ⟨_, _, _, e, _⟩ := y; exact ⟨_, e⟩
      | own y' => obtain ⟨_, e⟩ := y; exact ⟨_, e⟩
      | xd fs => obtain ⟨_, ⟨_, _, _, e, _⟩, _⟩ := y; exact ⟨_, e⟩
      | rng lo hi => obtain ⟨_, _, _, e⟩ := y; exact ⟨_, e⟩
      | frz ob u => obtain ⟨e, _⟩ := y; exact ⟨_, e⟩
      | tbl ps => exact ⟨_, (show h.get? a = some _ from y)⟩
      | met f y' => exact ⟨_, (show h.get? a = some _ from y)⟩
      | ext φ => obtain ⟨_, ⟨_, e⟩, _⟩ := y; exact ⟨_, e⟩
    obtain ⟨o, ho⟩ := key
    rw [e] at ho
    cases ho
theorem Inv.more {pins : List (Addr × Obj)} {σ : L2.St} {H : Hp} {s s' : Shared} {a : Addr} {o : HO} (I : Inv X pins σ H s) (k : Keeps s s') (hp : s.heap.get? a = none) (new : ObjOk X.prog X.w (upd H a o) s'.heap a o) : Inv X pins σ (upd H a o) s' :=
  I.call' (ch := []) k.2.2 (Un.laidN k.1 hp (hok_free I.hok hp)) (I.hok.laidN k.1 (hok_free I.hok hp) new) (by rw [k.2.1]; exact I.bare) (fun _ z => nomatch z)

theorem vals_all {h : Heap} : ∀ {xs : List Str} {us : List Value}, Vals (xs.map V.str) us → EachIs (fun v x => ∃ tk, v = Value.str x tk) us xs
  | [], _, .nil => .nil
  | x :: xs, _, .cons r t => .cons r (vals_all (h := h) t)
theorem vals_each : ∀ {xs : List Str} {us : List Value}, EachIs (fun v x => ∃ tk, v = Value.str x tk) us xs → Vals (xs.map V.str) us
  | [], _, .nil => .nil
  | x :: xs, _, .cons r t => .cons r (vals_each t)
/-- a text's name for the value -/
def strBack : Value → Str
  | .str x _ => x
  | _ => ⟨#[]⟩
theorem back_strs : ∀ {xs : List Str} {us : List Value}, Vals (xs.map V.str) us → us.map strBack = xs
  | [], _, .nil => rfl
  | x :: xs, _, .cons r t => by
    obtain ⟨tk, rfl⟩ := r
    rw [List.map_cons, back_strs t]; rfl
theorem each_imp {α β : Type} {R S : α → β → Prop} (f : ∀ a b, R a b → S a b) : ∀ {as : List α} {bs : List β}, EachIs R as bs → EachIs S as bs
  | _, _, .nil => .nil
  | _, _, .cons r t => .cons (f _ _ r) (each_imp f t)
theorem alike_strsAll (ys : List Str) : AllAlike (ys.map PyData.str) := fun d hd d' hd' => by
  obtain ⟨x, _, rfl⟩ := List.mem_map.mp hd
  obtain ⟨y, _, rfl⟩ := List.mem_map.mp hd'
  simp [alike]
theorem lex_sort {β : Type} {lt : β → β → Bool} (O : Ordr lt) {enc : β → PyData} (he : ∀ a b, dataLt (enc a) (enc b) = lt a b) (ys : List β) : ys.mergeSort (dataLe false enc) = isort lt ys := by
  have hle : ∀ a b, dataLe false enc a b = !lt b a := fun a b => by
    show (!PyProof.Rows.lexLt itemOrd (keyToks (enc b)) (keyToks (enc a))) = _
    rw [show PyProof.Rows.lexLt itemOrd (keyToks (enc b)) (keyToks (enc a)) = lt b a from he b a]
  refine isort_unique O (List.mergeSort_perm _ _) ?_
  have q := List.pairwise_mergeSort (le := dataLe false enc) (fun a b c h1 h2 => by
    rw [hle] at h1 h2 ⊢
    simp only [Bool.not_eq_true'] at h1 h2 ⊢
    exact O.ntr h1 h2) (fun a b => by
    rw [hle, hle]
    cases p : lt b a with
    | false => rfl
    | true => rw [O.asy p]; rfl) ys
  exact List.Pairwise.imp (fun {a b} h => by rw [hle] at h; simpa using h) q

/-- sorted(xs), xs a list, a tuple or a set of texts -/
def rSortS (K : PySem.W.Frag) (w : World) : List V → Hp → VK → Prop := fun vs H Q => ∃ (a : Addr) (xs : List Str), vs = [V.ref a] ∧ Gath K w H a (xs.map V.str) ∧ ∀ p, H p = none → Q (.ref p) (upd H p (.lst ((isort ltS xs).map V.str)))
theorem cr_sortS (hc : X.calm = true) (hu : X.A.units + 64 < cLine) : CallR X (.builtin "sorted") (rSortS X.K X.w) := by
  intro pins s σ H vs us Q I r h
  obtain ⟨a, xs, rfl, g, q⟩ := h
  rw [Vals.ref1 r]
  refine sorted_plain (R := fun us => us.length ≤ sizeLine ∧ ∃ ys : List Str, ys.Perm xs ∧ Vals (ys.map V.str) us) (κ := fun us h => dataKind h ((us.map strBack).map PyData.str))
    (fun E' Q' hq => collect_gath I (by simp [I.ok.hd hc]) g E' Q' fun s' us k hz ⟨vs', p', r'⟩ => hq s' us k hz ⟨hz, ?_⟩) (fun s' us k ⟨_, ys, p, rv⟩ => ?_) fun s' p c us h1 k k1 hp ⟨hz, ys, py, rv⟩ hg => ?_
  · obtain ⟨ys, e, py⟩ : ∃ ys : List Str, vs' = ys.map V.str ∧ ys.Perm xs := by
      have : ∀ {l : List V}, (∀ v ∈ l, ∃ x, v = V.str x) → ∃ ys : List Str, l = ys.map V.str := by
        intro l
        induction l with
        | nil => intro _; exact ⟨[], rfl⟩
        | cons v l ih =>
          intro h
          obtain ⟨x, rfl⟩ := h v List.mem_cons_self
          obtain ⟨ys, rfl⟩ := ih fun u hu => h u (List.mem_cons_of_mem _ hu)
          exact ⟨x :: ys, rfl⟩
      obtain ⟨ys, rfl⟩ := this (l := vs') fun v hv => by
        obtain ⟨x, _, e⟩ := List.mem_map.mp (p'.mem_iff.mp hv)
        exact ⟨x, e.symm⟩
      refine ⟨ys, rfl, ?_⟩
      have q := p'.map (fun v => match v with
        | V.str x => x
        | _ => (⟨#[]⟩ : Str))
      rw [List.map_map, List.map_map] at q
      have e1 : ∀ l : List Str, l.map ((fun v => match v with
        | V.str x => x
        | _ => (⟨#[]⟩ : Str)) ∘ V.str) = l := fun l => by
        conv => rhs; rw [← List.map_id l]
        rfl
      rw [e1, e1] at q
      exact q
    exact ⟨ys, py, by rw [← e]; exact r'⟩
  · have e := back_strs rv
    rw [e]
    have er : EachIs (fun v d => ∃ as, Reads s'.heap v d as) us (ys.map PyData.str) := each_map (R := fun v d => ∃ as, Reads s'.heap v d as) PyData.str (each_imp (fun v x ⟨tk, e⟩ => ⟨[], by rw [e]; exact .str x tk⟩) (vals_all (h := s'.heap) rv))
    refine SortsAt.data er (alike_strsAll ys) (.inr fun d hd => ?_) fun d hd => ?_
    · obtain ⟨x, _, rfl⟩ := List.mem_map.mp hd
      exact ⟨(fun z => nomatch z), (fun xs z => nomatch z)⟩
    · obtain ⟨x, _, rfl⟩ := List.mem_map.mp hd
      show X.A.in1.in1.units + 0 < cLine
      simp; omega
  · have e := back_strs rv
    rw [e] at hg
    have ea := vals_all (h := h1) rv
    have o := sortVals_data (h' := h1) (enc := PyData.str) false ea (each_imp (fun v x ⟨tk, e⟩ => ⟨[], by rw [e]; exact .str x tk⟩) ea) (alike_strsAll ys)
    rw [lex_sort ordS (fun a b => dataLt_str a b), isort_unique ordS ((isort_perm ys).trans py) (isort_srt ordS ys)] at o
    have rv2 := vals_each o
    have hl : ((isort ltS xs).map V.str).length ≤ sizeLine := by
      rw [List.length_map, len_isort, ← py.length_eq]
      have := rv.length
      rw [List.length_map] at this
      omega
    refine ⟨.ref p, upd H p (.lst ((isort ltS xs).map V.str)), Inv.more I k hp ⟨hl, _, c, rv2, hg⟩, rfl, q p (hok_free I.hok hp)⟩
end
end UpS

/-! text UpSetE -/
set_option Elab.async false
set_option linter.all false
set_option maxRecDepth 100000
set_option maxHeartbeats 4000000
/-! sorted(..) of tuples of texts: from a list, a set, a dict's keys -/
namespace UpS
open PySem PySem.Spec PySem.W PyProof.Rows L2 Up

open Classical in
noncomputable def backT (L : List (Addr × List Str)) (v : Value) : List Str := if h : ∃ p, p ∈ L ∧ v = Value.ref p.1 then h.choose.2 else []
theorem backT_is {P : Program} {w : World} {h : Heap} {L : List (Addr × List Str)} (hk : ∀ p ∈ L, IsU P w h p.2 p.1) {p : Addr × List Str} (hp : p ∈ L) : backT L (.ref p.1) = p.2 := by
  have q : ∃ r, r ∈ L ∧ Value.ref p.1 = Value.ref r.1 := ⟨p, hp, rfl⟩
  unfold backT
  rw [dif_pos q]
  obtain ⟨h1, h2⟩ := q.choose_spec
  injection h2 with h2
  have a1 := hk _ h1
  rw [← h2] at a1
  exact a1.inj (hk p hp)
theorem reads_strs {P : Program} {w : World} {h : Heap} : ∀ {k : List Str} {vs : List Value}, ItemsAre (PySem.strKind P w) k vs → ∃ as, ReadsAll h vs (k.map PyData.str) as := by
  intro k vs x
  induction x with
  | nil => exact ⟨[], .nil⟩
  | @cons k0 v ks vs h1 _ ih =>
    obtain ⟨as, r⟩ := ih
    obtain ⟨t, e⟩ := isStr_shapeU h1
    subst e
    exact ⟨_, .cons (.str k0 t) r⟩
theorem reads_isU {P : Program} {w : World} {h : Heap} {k : List Str} {b : Addr} (x : IsU P w h k b) : ∃ as, Reads h (.ref b) (tupP k) as := by
  obtain ⟨o, items, n, ho, hc, hd, hi⟩ := x
  obtain ⟨as, r⟩ := reads_strs (h := h) hi
  exact ⟨as, .tuple ho hc hd r⟩
theorem each_refs {h : Heap} : ∀ (L : List (Addr × List Str)), EachIs (fun v p => v = Value.ref p.1) (L.map fun p => Value.ref p.1) L
  | [] => .nil
  | p :: L => .cons rfl (each_refs (h := h) L)
theorem refs_each : ∀ {L : List (Addr × List Str)} {vs : List Value}, EachIs (fun v p => v = Value.ref p.1) vs L → vs = L.map fun p => Value.ref p.1
  | [], _, .nil => rfl
  | p :: L, _, .cons r t => by rw [r, refs_each t]; rfl
theorem each_mem {α β : Type} {R S : α → β → Prop} : ∀ {as : List α} {bs : List β}, EachIs R as bs → (∀ a b, b ∈ bs → R a b → S a b) → EachIs S as bs
  | _, _, .nil, _ => .nil
  | _, _, .cons r t, f => .cons (f _ _ List.mem_cons_self r) (each_mem t fun a b hb => f a b (List.mem_cons_of_mem _ hb))
theorem each_of_mapT {R : Value → List Str → Prop} : ∀ {us : List Value} {L : List (Addr × List Str)}, EachIs (fun v p => R v p.2) us L → EachIs R us (L.map (·.2))
  | _, [], .nil => .nil
  | _, _ :: _, .cons r t => .cons r (each_of_mapT t)
section
variable {X : Cx}
theorem sortT_core {pins : List (Addr × Obj)} {σ : L2.St} {H : Hp} {s : Shared} {a : Addr} {L : List (Addr × List Str)} {Q : VK} (I : Inv X pins σ H s) (hu : X.A.units + 64 < cLine) (hk : ∀ p ∈ L, IsU X.prog X.w s.heap p.2 p.1) (hl : L.length ≤ sizeLine)
    (hcol : ∀ (E' : Value → Shared → Prop) (Q' : List Value → Shared → Prop), (∀ s' us, Keeps s s' → us.length ≤ sizeLine → (∃ L' : List (Addr × List Str), L'.Perm L ∧ us = L'.map fun p => Value.ref p.1) → Q' us s') → wpAny (model X.prog X.w) X.A.in1 (collect (.ref a)) Q' E' s)
    (q : ∀ (p : Addr) (L' : List (Addr × List Str)), L'.Perm L → Srt ltT (L'.map (·.2)) → H p = none → Q (.ref p) (upd H p (.lst (L'.map fun p => V.ref p.1)))) :
    wpAny (model X.prog X.w) X.A (call (.builtin "sorted") [.ref a]) (EP X pins σ Q) X.xe s := by
  refine sorted_plain (R := fun us => ∃ L' : List (Addr × List Str), L'.Perm L ∧ us = L'.map fun p => Value.ref p.1) (κ := fun us h => dataKind h ((us.map (backT L)).map tupP)) hcol (fun s' us k ⟨L', p, e⟩ => ?_) fun s' p c us h1 k k1 hp ⟨L', pL, e⟩ hg => ?_
  · subst e
    have hb : (L'.map fun p => Value.ref p.1).map (backT L) = L'.map (·.2) := by
      rw [List.map_map]
      exact List.map_congr_left fun q hq => backT_is hk (p.mem_iff.mp hq)
    rw [hb]
    have e1 : EachIs (fun v p => v = Value.ref p.1) (L'.map fun p => Value.ref p.1) L' := each_refs (h := s.heap) L'
    have e2 : EachIs (fun (v : Value) (p : Addr × List Str) => ∃ as, Reads s'.heap v (tupP p.2) as) (L'.map fun p => Value.ref p.1) L' := each_mem e1 fun v q hq e => by
      rw [e]; exact reads_isU (isU_keep (hk q (p.mem_iff.mp hq)) k.1)
    exact sortsAt_tups (each_of_mapT e2) (by simp; omega)
  · subst e
    have hb : ((L'.map fun p => Value.ref p.1).map (backT L)).map tupP = L'.map fun p => tupP p.2 := by
      rw [List.map_map, List.map_map]
      exact List.map_congr_left fun q hq => congrArg tupP (backT_is hk (pL.mem_iff.mp hq))
    rw [hb] at hg
    have e1 : EachIs (fun v p => v = Value.ref p.1) (L'.map fun p => Value.ref p.1) L' := each_refs (h := s.heap) L'
    have e2 : EachIs (fun (v : Value) (p : Addr × List Str) => ∃ as, Reads h1 v (tupP p.2) as) (L'.map fun p => Value.ref p.1) L' := each_mem e1 fun v q hq e => by
      rw [e]; exact reads_isU (isU_keep (hk q (pL.mem_iff.mp hq)) k1)
    have hal : AllAlike (L'.map fun p => tupP p.2) := fun d hd d' hd' => by
      obtain ⟨x, _, rfl⟩ := List.mem_map.mp hd
      obtain ⟨y, _, rfl⟩ := List.mem_map.mp hd'
      exact alike_tupP _ _
    have o := sortVals_data (h' := h1) (R := fun v p => v = Value.ref p.1) (enc := fun p : Addr × List Str => tupP p.2) false e1 e2 hal
    have hle : ∀ x y : Addr × List Str, dataLe false (fun p : Addr × List Str => tupP p.2) x y = !ltT y.2 x.2 := fun x y => by
      show (!dataLt (tupP y.2) (tupP x.2)) = _
      rw [dataLt_tupP]
    have pm := List.mergeSort_perm L' (dataLe false fun p : Addr × List Str => tupP p.2)
    have pw := List.pairwise_mergeSort (le := dataLe false fun p : Addr × List Str => tupP p.2) (fun x y z h1 h2 => by
      rw [hle] at h1 h2 ⊢
      simp only [Bool.not_eq_true'] at h1 h2 ⊢
      exact ordT.ntr h1 h2) (fun x y => by
      rw [hle, hle]
      cases z : ltT y.2 x.2 with
      | false => rfl
      | true => rw [ordT.asy z]; rfl) L'
    generalize L'.mergeSort (dataLe false fun p : Addr × List Str => tupP p.2) = L2 at o pm pw
    rw [refs_each o] at hg
    have pm2 := pm.trans pL
    refine ⟨.ref p, upd H p (.lst (L2.map fun p => V.ref p.1)), Inv.more I k hp ⟨by rw [List.length_map, pm2.length_eq]; exact hl, _, c, vals_of_refsU L2, hg⟩, rfl, q p L2 pm2 ?_ (hok_free I.hok hp)⟩
    unfold Srt
    rw [List.pairwise_map]
    exact List.Pairwise.imp (fun {x y} h => by rw [hle] at h; simpa using h) pw

/-- some order of refs -/
theorem refs_perm {L : List (Addr × List Str)} : ∀ {vs : List V} {us : List Value}, Vals vs us → (∀ v ∈ vs, ∃ p ∈ L, v = V.ref p.1) → ∃ L' : List (Addr × List Str), (∀ p ∈ L', p ∈ L) ∧ vs = L'.map (fun p => V.ref p.1) ∧ us = L'.map fun p => Value.ref p.1
  | [], _, .nil, _ => ⟨[], (fun p h => nomatch h), rfl, rfl⟩
  | v :: vs, _, .cons r t, h => by
    obtain ⟨p, hp, rfl⟩ := h v List.mem_cons_self
    obtain ⟨L', h1, h2, h3⟩ := refs_perm t fun u hu => h u (List.mem_cons_of_mem _ hu)
    refine ⟨p :: L', fun q hq => ?_, by rw [h2]; rfl, by rw [h3]; cases r; rfl⟩
    rcases List.mem_cons.mp hq with e | e
    · rw [e]; exact hp
    · exact h1 q e
theorem perm_refs {γ : Type} {f : Addr × List Str → γ} (L L' : List (Addr × List Str)) (h : (L'.map f).Perm (L.map f)) : ∃ L2 : List (Addr × List Str), L2.Perm L ∧ L2.map f = L'.map f := by
  generalize e : L'.map f = l at h
  clear e
  generalize e2 : L.map f = m at h
  have : ∃ L2 : List (Addr × List Str), L2.Perm L ∧ L2.map f = l := by
    subst e2
    have key : ∀ {l m : List γ}, l.Perm m → ∀ L : List (Addr × List Str), L.map f = m → ∃ L2 : List (Addr × List Str), L2.Perm L ∧ L2.map f = l := by
      intro l m p
      induction p with
      | nil => intro L e; exact ⟨L, .refl _, e⟩
      | cons x p ih =>
        intro L e
        cases L with
        | nil => cases e
        | cons y L =>
          injection e with e1 e2
          obtain ⟨L2, p2, e3⟩ := ih L e2
          exact ⟨y :: L2, p2.cons y, by rw [List.map_cons, e1, e3]⟩
      | swap x y l =>
        intro L e
        match L, e with
        | u :: v :: L, e =>
          injection e with e1 e
          injection e with e2 e
          exact ⟨v :: u :: L, List.Perm.swap _ _ _, by rw [List.map_cons, List.map_cons, e1, e2, e]⟩
      | trans p1 p2 ih1 ih2 =>
        intro L e
        obtain ⟨L1, q1, r1⟩ := ih2 L e
        obtain ⟨L2, q2, r2⟩ := ih1 L1 r1
        exact ⟨L2, q2.trans q1, r2⟩
    exact key h L rfl
  exact this
/-- sorted(xs), xs a list or a set of tuples of texts, or a dict with such keys -/
def rSortT (K : PySem.W.Frag) (w : World) : List V → Hp → VK → Prop := fun vs H Q => ∃ (a : Addr), vs = [V.ref a] ∧
  ((∃ L : List (Addr × List Str), Gath K w H a (L.map fun p => V.ref p.1) ∧ (∀ p ∈ L, SqT K H p.1 (p.2.map V.str)) ∧ L.length ≤ 100000 ∧
    ∀ (p : Addr) (L' : List (Addr × List Str)), L'.Perm L → Srt ltT (L'.map (·.2)) → H p = none → Q (.ref p) (upd H p (.lst (L'.map fun p => V.ref p.1)))) ∨
  (∃ (kvs : List (List Key × V)) (ks : List (List Str)), Rd H a (.dT kvs) ∧ kvs.map (·.1) = ks.map (List.map Sum.inr) ∧ ks.length ≤ 100000 ∧
    ∀ (p : Addr) (L' : List (Addr × List Str)), (L'.map (·.2)).Perm ks → (∀ p ∈ L', H p.1 = some (.tup (p.2.map V.str))) → Srt ltT (L'.map (·.2)) → H p = none → Q (.ref p) (upd H p (.lst (L'.map fun p => V.ref p.1)))))
theorem keys_at {H : Hp} : ∀ {kvs : List (List Key × V)} {xs : List (List Key × Addr × Value)} {ks : List (List Str)}, Paired (fun (p : List Key × V) (q : List Key × Addr × Value) => p.1 = q.1 ∧ H q.2.1 = some (.tup (p.1.map kV)) ∧ RelV p.2 q.2.2) kvs xs →
    kvs.map (·.1) = ks.map (List.map Sum.inr) → ∃ L : List (Addr × List Str), L.map (·.2) = ks ∧ L.map (·.1) = xs.map (·.2.1) ∧ ∀ p ∈ L, H p.1 = some (.tup (p.2.map V.str))
  | [], _, ks, .nil, e => by
    cases ks with
    | nil => exact ⟨[], rfl, rfl, (fun p h => nomatch h)⟩
    | cons _ _ => cases e
  | p :: kvs, q :: xs, ks, .cons r t, e => by
    cases ks with
    | nil => cases e
    | cons k ks =>
      injection e with e1 e2
      obtain ⟨L, h1, h2, h3⟩ := keys_at t e2
      refine ⟨(q.2.1, k) :: L, by rw [List.map_cons, h1], by rw [List.map_cons, h2]; rfl, fun u hu => ?_⟩
      rcases List.mem_cons.mp hu with z | z
      · subst z
        have := r.2.1
        rw [show p.1 = List.map Sum.inr k from e1, List.map_map] at this
        exact this
      · exact h3 u z
theorem cr_sortTU (hc : X.calm = true) (hu : X.A.units + 64 < cLine) : CallR X (.builtin "sorted") (rSortT X.K X.w) := by
  intro pins s σ H vs us Q I r h
  obtain ⟨a, rfl, h⟩ := h
  rw [Vals.ref1 r]
  rcases h with ⟨L, g, hk, hl, q⟩ | ⟨kvs, ks, hd, e, hl, q⟩
  · refine sortT_core I hu (fun p hp => Inv.isU I (hk p hp)) (sz_of hl) (fun E' Q' hq => collect_gath I (by simp [I.ok.hd hc]) g E' Q' fun s' us k hz ⟨vs', p', r'⟩ => hq s' us k hz ?_) q
    obtain ⟨L', h1, h2, h3⟩ := refs_perm (L := L) r' fun v hv => by
      obtain ⟨p, hp, e⟩ := List.mem_map.mp (p'.mem_iff.mp hv)
      exact ⟨p, hp, e.symm⟩
    obtain ⟨L2, p2, e2⟩ := perm_refs (f := fun p => V.ref p.1) L L' (by rw [← h2]; exact p')
    refine ⟨L2, p2, ?_⟩
    rw [h3]
    have : ∀ {A B : List (Addr × List Str)}, A.map (fun p => V.ref p.1) = B.map (fun p => V.ref p.1) → A.map (fun p => Value.ref p.1) = B.map fun p => Value.ref p.1 := by
      intro A
      induction A with
      | nil => intro B e; cases B with
        | nil => rfl
        | cons _ _ => cases e
      | cons x A ih => intro B e; cases B with
        | nil => cases e
        | cons y B =>
          injection e with e1 e2
          injection e1 with e1
          rw [List.map_cons, List.map_cons, ih e2, e1]
    exact (this e2).symm
  · obtain ⟨hz, lo, xs, hp, o, es, ep, ho, hx, hdt, hes, hnd⟩ := hd.ok I.hok
    obtain ⟨L, l1, l2, l3⟩ := keys_at hp e
    have hraw : s.heap.DictRaw a es ep := ⟨o, ho, hx, hdt⟩
    have hxl : xs.length = ks.length := by
      have h1 := congrArg List.length l2
      have h2 := congrArg List.length l1
      rw [List.length_map, List.length_map] at h1
      rw [List.length_map] at h2
      omega
    have hsz : es.size = xs.length := by
      have := congrArg List.length hes
      rw [List.length_map, Array.length_toList] at this
      exact this
    have hLl : L.length = ks.length := by rw [← l1, List.length_map]
    refine sortT_core (L := L) I hu (fun p hp => Inv.isU I (.inl (.inl (l3 p hp)))) (sz_of (by omega)) (fun E' Q' hq => ?_) fun p L' pL hs hn => q p L' (by rw [← l1]; exact pL.map _) (fun u hu => l3 u (pL.mem_iff.mp hu)) hs hn
    refine kdu_collect (KdlSrc.rawDict lo) (by simp [I.ok.hd hc]) hraw (sz_of (by omega)) fun h' tk acc k hi => hq _ _ ⟨k, rfl, rfl⟩ ?_ ⟨L, .refl _, ?_⟩
    · have := hi.1
      simp
      rw [this]
      exact sz_of (by omega)
    · refine items_out (Pv := fun i v => ∃ hi : i < es.size, v = es[i].key) (out := L.map fun p => Value.ref p.1) (by rw [List.length_map, hLl, ← hxl, ← hsz]; exact hi) fun j v ⟨hj, e⟩ => ?_
      have e1 : (es.toList.map (·.key))[j]? = some v := by
        rw [List.getElem?_map, Array.getElem?_toList, Array.getElem?_eq_getElem hj, e]; rfl
      have e2 : es.toList.map (·.key) = L.map fun p => Value.ref p.1 := by
        rw [hes, List.map_map]
        have : xs.map (fun q => Value.ref q.2.1) = L.map fun p => Value.ref p.1 := by
          have z := congrArg (List.map Value.ref) l2
          rw [List.map_map, List.map_map] at z
          exact z.symm
        rw [← this]
        rfl
      rw [← e2]; exact e1
end
end UpS

/-! text UpSetF -/
set_option Elab.async false
set_option linter.all false
set_option maxRecDepth 100000
set_option maxHeartbeats 4000000
/-! set and sorted over data -/
namespace Up
open PySem PySem.Spec PyProof.Rows L2 UpS
abbrev T1 := List Str
abbrev T2 := List (List Str)
def tS (xs : T1) : D := .tup (xs.map .str)
def lS (xs : T1) : D := .lst (xs.map .str)
def tT (xs : T2) : D := .tup (xs.map tS)
def lT (xs : T2) : D := .lst (xs.map lS)

def rSrt (K : PySem.W.Frag) (w : World) : List V → Hp → VK → Prop := fun vs H Q => rSortS K w vs H Q ∨ rSortT K w vs H Q
def rLenS (w : World) : List V → Hp → VK → Prop := fun xs H Q => ∃ a vs, xs = [V.ref a] ∧ H a = some (SO w a vs) ∧ Q (.int vs.length) H
def rLenA (K : PySem.W.Frag) (w : World) : List V → Hp → VK → Prop := fun xs H Q => rLenU K xs H Q ∨ rLenS w xs H Q
section
variable {X : Cx}
theorem cr_srt (hc : X.calm = true) (hu : X.A.units + 64 < cLine) : CallR X (.builtin "sorted") (rSrt X.K X.w) := fun pins s σ H xs us Q I r h => by
  rcases h with h | h
  · exact cr_sortS hc hu pins s σ H xs us Q I r h
  · exact cr_sortTU hc hu pins s σ H xs us Q I r h
theorem cr_lenS : CallR X (.builtin "len") (rLenS X.w) := by
  intro pins s σ H xs us Q I r h
  obtain ⟨a, vs, rfl, ha, q⟩ := h
  rw [Vals.ref1 r]
  obtain ⟨us, rv, o, es, ep, t, ho, hx, hd, hu, hf, hsz, hr, hl⟩ := (I.hok a _ ha).1
  have e : es.size = vs.length := by
    have h1 := rv.length
    have h2 := congrArg List.length hu
    rw [List.length_map, Array.length_toList] at h2
    omega
  refine call_len_set ho hx hd hf (by have : es.size < 4096 := hsz; omega) ⟨.int vs.length, H, I.tok _, ⟨_, by rw [e]⟩, q⟩
theorem cr_lenA : CallR X (.builtin "len") (rLenA X.K X.w) := fun pins s σ H xs us Q I r h => by
  rcases h with h | h
  · exact call_len_seq pins s σ H xs us Q I r h
  · exact cr_lenS pins s σ H xs us Q I r h
end
section
variable {X : Cx} (K : PySem.W.Frag) (w : World)
theorem k_sorted (hu : X.A.units + 64 < cLine) (hK : X.K = K := by rfl) (hw : X.w = w := by rfl) (hc : X.calm = true := by rfl) : CallR X (.builtin "sorted") (rSrt K w) := hK ▸ hw ▸ cr_srt hc hu
theorem k_set (hu : X.A.units + 64 < cLine) (hK : X.K = K := by rfl) (hw : X.w = w := by rfl) (hc : X.calm = true := by rfl) : CallR X (.type "set") (rSet K w) := hK ▸ hw ▸ cr_set hc hu
theorem k_lenA (hK : X.K = K := by rfl) (hw : X.w = w := by rfl) : CallR X (.builtin "len") (rLenA K w) := hK ▸ hw ▸ cr_lenA
end
/-! .. by data -/
def RL (r : List V → Hp → VK → Prop) (ds : List D) (zs : List D) : Prop := ∀ G vs, Rps G ds vs → ∀ H, Ex G H → ∀ Q : VK,
  (∀ p ws G' H', Gr N0 G H G' H' → H p = none → G' p = none → H' p = some (.lst ws) → Rps G' zs ws → Q (.ref p) H') → r vs H Q
section
variable {K : PySem.W.Frag} {w : World} {σ : L2.St} {G : Hp} {te : TE} {tr : TA} {ds zs : List D} {r : List V → Hp → VK → Prop}
theorem gl_cb (h : GA tr σ G ds) (hr : RL r ds zs) : GL (tCB r tr) σ G zs := fun H e Q q =>
  h H e _ fun vs G1 H1 g1 r1 => hr G1 vs r1 H1 g1.gh Q fun p ws G2 H2 g2 hp gp hv r2 => q p ws G2 H2 (g1.trans g2) (g1.free hp) gp hv r2
/-- tuples of texts, as objects -/
theorem Rps.t1s {G : Hp} : ∀ {ts : T2} {vs : List V}, Rps G (ts.map tS) vs → ∃ L : List (Addr × List Str), vs = L.map (fun p => V.ref p.1) ∧ L.map (·.2) = ts ∧ ∀ p ∈ L, G p.1 = some (.tup (p.2.map V.str))
  | [], _, h => by cases h; exact ⟨[], rfl, rfl, (fun p h => nomatch h)⟩
  | t :: ts, _, h => by
    cases h with
    | cons h r =>
      obtain ⟨L, h1, h2, h3⟩ := Rps.t1s r
      cases h with
      | @tup a us _ ha rs =>
        obtain rfl := rs.strs
        refine ⟨(a, t) :: L, by rw [h1]; rfl, by rw [List.map_cons, h2], fun p hp => ?_⟩
        rcases List.mem_cons.mp hp with e | e
        · rw [e]; exact ha
        · exact h3 p e
theorem Rps.of_t1s {G : Hp} : ∀ {L : List (Addr × List Str)}, (∀ p ∈ L, G p.1 = some (.tup (p.2.map V.str))) → Rps G ((L.map (·.2)).map tS) (L.map fun p => V.ref p.1)
  | [], _ => .nil
  | p :: L, h => .cons (.tup (h p List.mem_cons_self) (Rps.of_strs _)) (Rps.of_t1s fun q hq => h q (List.mem_cons_of_mem _ hq))
theorem rl_sortS {xs : T1} {d : D} (hd : d = .lst (xs.map .str) ∨ d = .tup (xs.map .str)) : RL (rSrt K w) [d] ((isort ltS xs).map .str) := fun G vs h H e Q q => by
  cases h with
  | cons h t =>
    cases t
    have fin : ∀ p, H p = none → Q (.ref p) (upd H p (.lst ((isort ltS xs).map V.str))) := fun p hp => q p _ G _ ((Gr.refl e).put (.inl hp) (e.free hp)) hp (e.free hp) upd_same (Rps.of_strs _)
    rcases hd with rfl | rfl
    · cases h with
      | lst ha rs =>
        obtain rfl := rs.strs
        exact .inl ⟨_, xs, rfl, .inl (sqL_of e ha), fin⟩
    · cases h with
      | tup ha rs =>
        obtain rfl := rs.strs
        exact .inl ⟨_, xs, rfl, .inr (.inl (sqT_of e ha)), fin⟩
theorem rl_sortT {ts : T2} {d : D} (hd : d = .lst (ts.map tS) ∨ d = .tup (ts.map tS)) (hl : ts.length ≤ 100000) : RL (rSrt K w) [d] ((isort ltT ts).map tS) := fun G vs h H e Q q => by
  cases h with
  | cons h t =>
    cases t
    have fin : ∀ L : List (Addr × List Str), L.map (·.2) = ts → (∀ p ∈ L, G p.1 = some (.tup (p.2.map V.str))) → ∀ (p : Addr) (L' : List (Addr × List Str)), L'.Perm L → Srt ltT (L'.map (·.2)) → H p = none → Q (.ref p) (upd H p (.lst (L'.map fun p => V.ref p.1))) := fun L h1 h2 p L' pL hs hp => by
      have es : L'.map (·.2) = isort ltT ts := isort_unique ordT (by rw [← h1]; exact pL.map _) hs
      refine q p _ G _ ((Gr.refl e).put (.inl hp) (e.free hp)) hp (e.free hp) upd_same ?_
      rw [← es]
      exact Rps.of_t1s fun u hu => h2 u (pL.mem_iff.mp hu)
    rcases hd with rfl | rfl
    · cases h with
      | lst ha rs =>
        obtain ⟨L, rfl, h2, h3⟩ := rs.t1s
        exact .inr ⟨_, rfl, .inl ⟨L, .inl (sqL_of e ha), fun p hp => sqT_of e (h3 p hp), by rw [← h2, List.length_map] at hl; exact hl, fin L h2 h3⟩⟩
    · cases h with
      | tup ha rs =>
        obtain ⟨L, rfl, h2, h3⟩ := rs.t1s
        exact .inr ⟨_, rfl, .inl ⟨L, .inr (.inl (sqT_of e ha)), fun p hp => sqT_of e (h3 p hp), by rw [← h2, List.length_map] at hl; exact hl, fin L h2 h3⟩⟩
/-- sorted(known), a dict whose keys are tuples of texts -/
theorem rpt_keys {G : Hp} : ∀ {kvs : List (List Key × D)} {ws : List (List Key × V)}, Rpt G kvs ws → ws.map (·.1) = kvs.map (·.1)
  | [], _, h => by cases h; rfl
  | (k, d) :: kvs, _, h => by cases h with | cons _ r => rw [List.map_cons, List.map_cons, rpt_keys r]
theorem gl_sortDict {kvs : List (T1 × D)} (h : GD te σ G (.dt (kvs.map fun p => (p.1.map Sum.inr, p.2)))) (hl : kvs.length ≤ 100000) : GL (tCB (rSrt K w) (tCons te tNil)) σ G ((isort ltT (kvs.map (·.1))).map tS) := fun H e Q q =>
  h H e _ fun v G1 H1 g r => by
    cases r with
    | @dt a ws _ ha rs =>
      have hk := rpt_keys rs
      rw [List.map_map] at hk
      refine .inr ⟨a, rfl, .inr ⟨ws, kvs.map (·.1), g.gh.le.rt _ _ ha, by rw [hk, List.map_map]; rfl, by rw [List.length_map]; exact hl, fun p L' pL hm hs hp => ?_⟩⟩
      have es : L'.map (·.2) = isort ltT (kvs.map (·.1)) := isort_unique ordT pL hs
      obtain ⟨G2, g2, e2, k2⟩ := g.sealTs (L'.map fun u => (u.1, u.2.map V.str)) fun u hu => by
        obtain ⟨u', hu', rfl⟩ := List.mem_map.mp hu
        exact hm u' hu'
      refine q p _ G2 _ (g2.put (.inl (g2.free hp)) (g2.gh.free hp)) (g2.free hp) (g2.gh.free hp) upd_same ?_
      rw [← es]
      exact Rps.of_t1s fun u hu => k2 (u.1, u.2.map V.str) (List.mem_map.mpr ⟨u, hu, rfl⟩)
theorem nodup_of_snd {L : List (Addr × List Str)} (h : (L.map (·.2)).Nodup) : L.Nodup := List.Pairwise.of_map (·.2) (fun _ _ hne e => hne (congrArg Prod.snd e)) h
/-- sorted(set(xs)), xs a list or a tuple of texts -/
theorem gl_sortSetS {xs : T1} {d : D} (h : GD te σ G d) (hd : d = .lst (xs.map .str) ∨ d = .tup (xs.map .str)) (hl : xs.length < 4000) :
    GL (tCB (rSrt K w) (tCons (tCB (rSet K w) (tCons te tNil)) tNil)) σ G ((sset ltS xs).map .str) := fun H e Q q =>
  h H e _ fun v G1 H1 g r => by
    have fin : ∀ (a : Addr) (ys : List Str), H1 a = none → ys.Nodup → (∀ k, k ∈ ys ↔ k ∈ xs) → rSrt K w [.ref a] (upd H1 a (SO w a (ys.map V.str))) Q := fun a ys ha hn hm => by
      refine .inl ⟨a, ys, rfl, .inr (.inr upd_same), fun p hp => ?_⟩
      have hpa : p ≠ a := fun z => by rw [z, upd_same] at hp; cases hp
      have hp1 : H1 p = none := by rwa [upd_ne hpa] at hp
      refine q p _ G1 _ ((g.put (.inl (g.free ha)) (g.gh.free ha)).put (.inl (g.free hp1)) (g.gh.free hp1)) (g.free hp1) (g.gh.free hp1) upd_same ?_
      rw [← sset_of ordS hn hm]
      exact Rps.of_strs _
    rcases hd with rfl | rfl
    · cases r with
      | lst ha rs =>
        obtain rfl := rs.strs
        exact ⟨_, rfl, .inl ⟨xs, .inl (sqL_of g.gh ha), hl, fin⟩⟩
    · cases r with
      | tup ha rs =>
        obtain rfl := rs.strs
        exact ⟨_, rfl, .inl ⟨xs, .inr (sqT_of g.gh ha), hl, fin⟩⟩
/-- sorted(set(xs)), xs a list of tuples of texts -/
theorem gl_sortSetT {ts : T2} (h : GD te σ G (.lst (ts.map tS))) (hf : ∀ l : T2, l.Nodup → (∀ x ∈ l, x ∈ ts) → l.length < 60) :
    GL (tCB (rSrt K w) (tCons (tCB (rSet K w) (tCons te tNil)) tNil)) σ G ((sset ltT ts).map tS) := fun H e Q q =>
  h H e _ fun v G1 H1 g r => by
    cases r with
    | lst ha rs =>
      obtain ⟨ks, rfl, h2, h3⟩ := rs.t1s
      refine ⟨_, rfl, .inr ⟨ks, sqL_of g.gh ha, fun p hp => sqT_of g.gh (h3 p hp), fun l hn hm => hf l hn fun x hx => by rw [← h2]; exact hm x hx, fun a L hA hn hs hm => ?_⟩⟩
      have up1 : ∀ p ∈ L, upd H1 a (SO w a (L.map fun p => V.ref p.1)) p.1 = some (.tup (p.2.map V.str)) := fun p hp => by
        have h1 := g.gh _ _ (h3 p (hs p hp))
        rw [upd_ne (ne_of_none h1 hA)]; exact h1
      have hlen : L.length < 60 := by
        have := hf (L.map (·.2)) hn fun x hx => by
          obtain ⟨p, hp, rfl⟩ := List.mem_map.mp hx
          rw [← h2]; exact List.mem_map.mpr ⟨p, hs p hp, rfl⟩
        rwa [List.length_map] at this
      refine .inr ⟨a, rfl, .inl ⟨L, .inr (.inr upd_same), fun p hp => .inl (.inl (up1 p hp)), by omega, fun p L' pL hst hp => ?_⟩⟩
      have hpa : p ≠ a := fun z => by rw [z, upd_same] at hp; cases hp
      have hp1 : H1 p = none := by rwa [upd_ne hpa] at hp
      refine q p _ G1 _ ((g.put (.inl (g.free hA)) (g.gh.free hA)).put (.inl (g.free hp1)) (g.gh.free hp1)) (g.free hp1) (g.gh.free hp1) upd_same ?_
      have es : L'.map (·.2) = sset ltT ts := by
        rw [isort_unique ordT (pL.map _) hst]
        refine sset_of ordT hn fun x => ⟨fun hx => ?_, fun hx => ?_⟩
        · obtain ⟨p, hp, rfl⟩ := List.mem_map.mp hx
          rw [← h2]; exact List.mem_map.mpr ⟨p, hs p hp, rfl⟩
        · rw [← h2] at hx
          obtain ⟨p, hp, rfl⟩ := List.mem_map.mp hx
          exact hm p hp
      rw [← es]
      exact Rps.of_t1s fun u hu => h3 u (hs u (pL.mem_iff.mp hu))
/-- len(set(xs)), xs a tuple of texts -/
theorem gd_lenSet {xs : T1} (h : GD te σ G (tS xs)) (hl : xs.length < 4000) : GD (tCB (rLenA K w) (tCons (tCB (rSet K w) (tCons te tNil)) tNil)) σ G (.int (dedup xs).length) := fun H e Q q =>
  h H e _ fun v G1 H1 g r => by
    cases r with
    | tup ha rs =>
      obtain rfl := rs.strs
      refine ⟨_, rfl, .inl ⟨xs, .inr (sqT_of g.gh ha), hl, fun a ys hA hn hm => .inr ⟨a, _, rfl, upd_same, ?_⟩⟩⟩
      have el : ys.length = (dedup xs).length := ((List.perm_ext_iff_of_nodup hn (nodup_dedup xs)).mpr fun x => by rw [hm, mem_dedup]).length_eq
      refine q _ G1 _ (g.put (.inl (g.free hA)) (g.gh.free hA)) ?_
      rw [List.length_map, el]
      exact .int _
theorem gd_lenU {ds : List D} {d : D} (h : GD te σ G d) (hd : d = .lst ds ∨ d = .tup ds) : GD (tCB (rLenA K w) (tCons te tNil)) σ G (.int ds.length) := fun H e Q q =>
  h H e _ fun v G1 H1 g r => by
    rcases hd with rfl | rfl
    · exact .inl (rb_lenL G1 _ (.cons r .nil) H1 g.gh Q fun v G2 H2 g2 r2 => q v G2 H2 (g.trans g2) r2)
    · exact .inl (rb_lenT G1 _ (.cons r .nil) H1 g.gh Q fun v G2 H2 g2 r2 => q v G2 H2 (g.trans g2) r2)
end
end Up

/-! text UpR -/
set_option Elab.async false
set_option linter.all false
set_option maxRecDepth 100000
set_option maxHeartbeats 2000000
/-! more rules over data: isinstance, +, slices, ==, in, > -/
namespace Up
open PySem PySem.Spec PyProof.Rows L2 UpS

/-! ### isinstance -/
def tyN : D → String
  | .non => "NoneType" | .bl _ => "bool" | .int _ => "int" | .str _ => "str" | .ty _ => "type"
  | .tup _ => "tuple" | .lst _ => "list" | .ftup _ => "tuple" | .dk _ => "dict" | .fk _ => "dict" | .dt _ => "dict"
def noTy : D → Bool
  | .ty _ => false | .dk _ => false | .fk _ => false | .dt _ => false | _ => true
theorem tyx {K : PySem.W.Frag} {G H : Hp} {d : D} {v : V} (r : Rp G d v) (e : Ex G H) (n : noTy d = true) : TyX K H v (.type (tyN d)) := by
  cases r with
  | non => exact .base .non
  | bl b => exact .base (.bl b)
  | int i => exact .base (.int i)
  | str x => exact .base (.str x)
  | ty n => cases n
  | tup h _ => exact .base (.tup (e _ _ h))
  | lst h _ => exact .base (.lst (e _ _ h))
  | ftup h _ _ => exact .fTuple (e _ _ h)
  | dk h _ => cases n
  | fk h _ => cases n
  | dt h _ => cases n
def rIsiA (K : PySem.W.Frag) : List V → Hp → VK → Prop := fun xs H Q => rIsi K xs H Q ∨ rIsiT K xs H Q
theorem call_isiA {X : Cx} : CallR X (.builtin "isinstance") (rIsiA X.K) := fun pins s σ H xs us Q I r h => by
  rcases h with h | h
  · exact call_isi pins s σ H xs us Q I r h
  · exact call_isiT pins s σ H xs us Q I r h
theorem k_isi {X : Cx} (K : PySem.W.Frag) (hK : X.K = K := by rfl) : CallR X (.builtin "isinstance") (rIsiA K) := hK ▸ call_isiA
section
variable {K : PySem.W.Frag} {w : World} {σ : L2.St} {G : Hp} {ta tb te : TE} {tr : TA} {d : D} {ds es : List D}
/-- isinstance(x, T) -/
theorem gd_isi1 {n : String} {b : Bool} (h : GD te σ G d) (nt : noTy d = true) (hk : kitB (tyN d) n = some b) : GD (tCB (rIsiA K) (tCons te (tCons (tC (.ty n)) tNil))) σ G (.bl b) := fun H e Q q =>
  h H e _ fun v G1 H1 g r => .inl ⟨v, .ty n, _, _, b, rfl, .ty n, tyx r g.gh nt, kit_ty hk, q _ G1 H1 g (.bl b)⟩
theorem gd_isi2 {n m : String} {b : Bool} (h : GD te σ G d) (nt : noTy d = true) (hk : ∀ K : PySem.W.Frag, PySem.W.kitAny K (.type (tyN d)) [.type n, .type m] = some b) : GD (tCB (rIsiA K) (tCons te (tCons (tTup (tCons (tC (.ty n)) (tCons (tC (.ty m)) tNil))) tNil))) σ G (.bl b) := fun H e Q q =>
  h H e _ fun v G1 H1 g r => ⟨by show 2 ≤ sizeLine; decide, fun p hp => .inr ⟨v, p, [.ty n, .ty m], _, [.type n, .type m], b, rfl, upd_same, .cons (.ty n) (.cons (.ty m) .nil), tyx (r.mono (Ex.new (g.gh.free hp))) (Ex.both g.gh) nt, hk K, q _ (upd G1 p (.tup [.ty n, .ty m])) _ (g.data hp) (.bl b)⟩⟩
theorem kit2 {t n m : String} {a b : Bool} (h1 : kitB t n = some a) (h2 : kitB t m = some b) (K : PySem.W.Frag) : PySem.W.kitAny K (.type t) [.type n, .type m] = some (a || b) := by
  refine kitAny_cons (kit_ty h1) (fun e => ?_) fun e => by rw [e]; rfl
  subst e
  exact kitAny_cons (kit_ty h2) (fun e => by rw [e]; exact kitAny_nil) fun e => by rw [e]; rfl

/-! ### t + u -/
theorem ro_catT (hl : ds.length + es.length ≤ 100000) : RO (rCatA K) (.tup ds) (.tup es) (.tup (ds ++ es)) := fun G v u hv hw H e Q q => by
  cases hv with
  | @tup a xs _ ha rx =>
    cases hw with
    | @tup b ys _ hb ry =>
      have l1 := rx.len
      have l2 := ry.len
      refine ⟨a, b, xs, ys, rfl, rfl, sqT_of e ha, sqT_of e hb, sz_of (by omega), fun z => ?_, fun z1 z => ?_, fun z1 z p hp => ?_⟩
      · subst z
        cases rx
        exact q _ G H (.refl e) (.tup hb ry)
      · subst z
        cases ry
        rw [List.append_nil] at q
        exact q _ G H (.refl e) (.tup ha rx)
      · exact q _ _ _ ((Gr.refl e).data hp) (.tup upd_same ((rx.append ry).mono (Ex.new (e.free hp))))
theorem ro_catL (hl : ds.length + es.length ≤ 100000) : RO rCat (.lst ds) (.lst es) (.lst (ds ++ es)) := fun G v u hv hw H e Q q => by
  cases hv with
  | @lst a xs _ ha rx =>
    cases hw with
    | @lst b ys _ hb ry =>
      have l1 := rx.len
      have l2 := ry.len
      exact ⟨a, b, xs, ys, rfl, rfl, e _ _ ha, e _ _ hb, sz_of (by omega), fun p hp => q _ _ _ ((Gr.refl e).data hp) (.lst upd_same ((rx.append ry).mono (Ex.new (e.free hp))))⟩

/-! ### slices -/
def GO (tl : TO) (σ : L2.St) (G : Hp) (o : Option Int) : Prop := ∀ H, Ex G H → ∀ Q : Option Int → Hp → Prop, (∀ G' H', Gr N0 G H G' H' → Q o H') → tl σ H Q
theorem GO.mono {tl : TO} {G1 : Hp} {o : Option Int} (h : GO tl σ G o) (e : Ex G G1) : GO tl σ G1 o := fun H x Q q => h H (e.trans x) Q fun G' H' g =>
  let ⟨a, _⟩ := g.up e x
  q _ H' a
theorem go_none : GO tNoPart σ G none := fun H e Q q => q G H (.refl e)
theorem go_some {i : Int} (h : GD te σ G (.int i)) : GO (tPart te) σ G (some i) := fun H e Q q => h H e _ fun v G1 H1 g r => by
  cases r
  exact ⟨i, rfl, q G1 H1 g⟩
def cutD (ds : List D) (lo hi : Option Int) : List D := (ds.drop (HT.sIx ds.length 0 lo)).take (HT.sIx ds.length ds.length hi - HT.sIx ds.length 0 lo)
theorem cut_rps {vs : List V} (r : Rps G ds vs) (lo hi : Option Int) : Rps G (cutD ds lo hi) (cutV vs lo hi) := by
  unfold cutD cutV
  rw [r.len]
  exact (r.drop _).take _
theorem cutD_to (n : Nat) : cutD ds none (some (n : Int)) = ds.take n := by
  unfold cutD
  rw [HT.sIx_nat, HT.sIx_none, List.drop_zero, Nat.sub_zero]
  rcases Nat.le_total n ds.length with h | h
  · rw [Nat.min_eq_left h]
  · rw [Nat.min_eq_right h, List.take_length, List.take_of_length_le h]
theorem cutD_from (n : Nat) : cutD ds (some (n : Int)) none = ds.drop n := by
  unfold cutD
  rw [HT.sIx_nat, HT.sIx_none]
  rcases Nat.le_total n ds.length with h | h
  · rw [Nat.min_eq_left h]
    rw [List.take_of_length_le (by rw [List.length_drop]; exact Nat.le_refl _)]
  · rw [Nat.min_eq_right h, List.drop_length, List.drop_of_length_le h, List.take_nil]
theorem cutD_mid (m n : Nat) : cutD ds (some (m : Int)) (some (n : Int)) = (ds.drop m).take (n - m) := by
  unfold cutD
  rw [HT.sIx_nat, HT.sIx_nat]
  rcases Nat.le_total m ds.length with h | h
  · rw [Nat.min_eq_left h]
    rcases Nat.le_total n ds.length with h2 | h2
    · rw [Nat.min_eq_left h2]
    · rw [Nat.min_eq_right h2, List.take_of_length_le (by rw [List.length_drop]; exact Nat.le_refl _), List.take_of_length_le (by rw [List.length_drop]; omega)]
  · rw [Nat.min_eq_right h, List.drop_length, List.drop_of_length_le h, List.take_nil, List.take_nil]
theorem gl_slL {tl th : TO} {lo hi : Option Int} (h : GD te σ G (.lst ds)) (hl : GO tl σ G lo) (hh : GO th σ G hi) : GL (tSl (rSlL K) te tl th) σ G (cutD ds lo hi) := fun H e Q q =>
  h H e _ fun v G1 H1 g1 r => (hl.mono g1.gg) H1 g1.gh _ fun G2 H2 g2 => (hh.mono (g1.gg.trans g2.gg)) H2 g2.gh _ fun G3 H3 g3 => by
    cases r with
    | @lst a xs _ ha rx =>
      have m := g2.gg.trans g3.gg
      have g := g1.trans (g2.trans g3)
      exact ⟨a, xs, rfl, sqL_of g3.gh (m _ _ ha), fun p hp => q p _ G3 _ (g.put (.inl (g.free hp)) (g.gh.free hp)) (g.free hp) (g.gh.free hp) upd_same (cut_rps (rx.mono m) lo hi)⟩
theorem gd_slT {tl th : TO} {lo hi : Option Int} (h : GD te σ G (.tup ds)) (hl : GO tl σ G lo) (hh : GO th σ G hi) : GD (tSl (rSlA K) te tl th) σ G (.tup (cutD ds lo hi)) := fun H e Q q =>
  h H e _ fun v G1 H1 g1 r => (hl.mono g1.gg) H1 g1.gh _ fun G2 H2 g2 => (hh.mono (g1.gg.trans g2.gg)) H2 g2.gh _ fun G3 H3 g3 => by
    cases r with
    | @tup a xs _ ha rx =>
      have m := g2.gg.trans g3.gg
      have g := g1.trans (g2.trans g3)
      refine ⟨a, xs, rfl, sqT_of g3.gh (m _ _ ha), fun z => ?_, fun z p hp => ?_⟩
      · have e : cutD ds lo hi = ds := by
          unfold cutD
          rw [rx.len, z.1, z.2, List.drop_zero, Nat.sub_zero, ← rx.len, List.take_length]
        rw [e] at q
        exact q _ G3 H3 g (.tup (m _ _ ha) (rx.mono m))
      · exact q _ _ _ (g.data hp) (.tup upd_same ((cut_rps (rx.mono m) lo hi).mono (Ex.new (g.gh.free hp))))

/-! ### data of one reading: ==, in, > -/
mutual
def pd : D → PyData
  | .non => .none | .bl b => .bool b | .int i => .int i | .str x => .str x | .ty _ => .none
  | .tup ds => .tuple (pds ds) | .lst ds => .list (pds ds) | .ftup _ => .none | .dk _ => .none | .fk _ => .none | .dt _ => .none
def pds : List D → List PyData
  | [] => []
  | d :: ds => pd d :: pds ds
end
mutual
def flatD : D → Bool
  | .non => true | .bl _ => true | .int _ => true | .str x => PyData.strOk x | .ty _ => false
  | .tup ds => flatDs ds | .lst ds => flatDs ds | .ftup _ => false | .dk _ => false | .fk _ => false | .dt _ => false
def flatDs : List D → Bool
  | [] => true
  | d :: ds => flatD d && flatDs ds
end
mutual
theorem rp_dp {G H : Hp} (e : Ex G H) : ∀ (d : D) (v : V), flatD d = true → Rp G d v → Dp K H v (pd d)
  | .non, _, _, h => by cases h; exact .non
  | .bl b, _, _, h => by cases h; exact .bl b
  | .int b, _, _, h => by cases h; exact .int b
  | .str b, _, _, h => by cases h; exact .str b
  | .ty _, _, n, _ => by cases n
  | .ftup _, _, n, _ => by cases n
  | .dk _, _, n, _ => by cases n
  | .fk _, _, n, _ => by cases n
  | .dt _, _, n, _ => by cases n
  | .tup ds, _, n, h => by cases h with | tup ha r => exact .tup (sqT_of e ha) (rps_dp e ds _ n r)
  | .lst ds, _, n, h => by cases h with | lst ha r => exact .lst (sqL_of e ha) (rps_dp e ds _ n r)
theorem rps_dp {G H : Hp} (e : Ex G H) : ∀ (ds : List D) (vs : List V), flatDs ds = true → Rps G ds vs → DpAll K H vs (pds ds)
  | [], _, _, h => by cases h; exact .nil
  | d :: ds, _, n, h => by
    have n' := Bool.and_eq_true_iff.mp n
    cases h with | cons h r => exact .cons (rp_dp e d _ n'.1 h) (rps_dp e ds _ n'.2 r)
end
mutual
theorem lay_pd : ∀ d : D, flatD d = true → (pd d).canLay0 = true
  | .non, _ => rfl
  | .bl _, _ => rfl
  | .int _, _ => rfl
  | .str _, h => h
  | .ty _, h => by cases h
  | .ftup _, h => by cases h
  | .dk _, h => by cases h
  | .fk _, h => by cases h
  | .dt _, h => by cases h
  | .tup ds, h => lay_pds ds h
  | .lst ds, h => lay_pds ds h
theorem lay_pds : ∀ ds : List D, flatDs ds = true → PyData.canLayAll0 (pds ds) = true
  | [], _ => rfl
  | d :: ds, n => by
    have n' := Bool.and_eq_true_iff.mp n
    exact Bool.and_eq_true_iff.mpr ⟨lay_pd d n'.1, lay_pds ds n'.2⟩
end
theorem ro_eqD {x y : D} (fx : flatD x = true) (fy : flatD y = true) (dx : (pd x).depth ≤ 64) (dy : (pd y).depth ≤ 64) : RO (rEqD K) x y (.bl (PyData.eqv (pd x) (pd y))) := ro_val fun G v w hv hw H e Q q =>
  ⟨pd x, pd y, rp_dp e x v fx hv, rp_dp e y w fy hw, Bool.and_eq_true_iff.mpr ⟨lay_pd x fx, decide_eq_true dx⟩, Bool.and_eq_true_iff.mpr ⟨lay_pd y fy, decide_eq_true dy⟩, q _ (.bl _)⟩
theorem ro_neD {x y : D} (fx : flatD x = true) (fy : flatD y = true) (dx : (pd x).depth ≤ 64) (dy : (pd y).depth ≤ 64) : RO (rNeD K) x y (.bl (!PyData.eqv (pd x) (pd y))) := ro_val fun G v w hv hw H e Q q =>
  ⟨pd x, pd y, rp_dp e x v fx hv, rp_dp e y w fy hw, Bool.and_eq_true_iff.mpr ⟨lay_pd x fx, decide_eq_true dx⟩, Bool.and_eq_true_iff.mpr ⟨lay_pd y fy, decide_eq_true dy⟩, q _ (.bl _)⟩
theorem ro_inD {x : D} {ds : List D} (fx : flatD x = true) (fy : flatDs ds = true) (dx : (pd x).depth ≤ 64) (dy : (PyData.list (pds ds)).depth ≤ 64) : RO (rInD K) x (.lst ds) (.bl ((pds ds).any fun z => PyData.eqv z (pd x))) := ro_val fun G v w hv hw H e Q q =>
  ⟨pd x, pds ds, rp_dp e x v fx hv, rp_dp e (.lst ds) w fy hw, Bool.and_eq_true_iff.mpr ⟨lay_pd x fx, decide_eq_true dx⟩, Bool.and_eq_true_iff.mpr ⟨lay_pd (.lst ds) fy, decide_eq_true dy⟩, q _ (.bl _)⟩
theorem ro_notInD {x : D} {ds : List D} (fx : flatD x = true) (fy : flatDs ds = true) (dx : (pd x).depth ≤ 64) (dy : (PyData.list (pds ds)).depth ≤ 64) : RO (rNotInD K) x (.lst ds) (.bl (!(pds ds).any fun z => PyData.eqv z (pd x))) := ro_val fun G v w hv hw H e Q q =>
  ⟨pd x, pds ds, rp_dp e x v fx hv, rp_dp e (.lst ds) w fy hw, Bool.and_eq_true_iff.mpr ⟨lay_pd x fx, decide_eq_true dx⟩, Bool.and_eq_true_iff.mpr ⟨lay_pd (.lst ds) fy, decide_eq_true dy⟩, q _ (.bl _)⟩
theorem k_inD {X : Cx} (K : PySem.W.Frag) (hu : X.A.units + 65 < cLine) (hK : X.K = K := by rfl) : OpR X (compareOp .In) (rInD K) := hK ▸ op_inD hu
theorem k_notInD {X : Cx} (K : PySem.W.Frag) (hu : X.A.units + 65 < cLine) (hK : X.K = K := by rfl) : OpR X (compareOp .NotIn) (rNotInD K) := hK ▸ op_notInD hu
theorem k_catA {X : Cx} (K : PySem.W.Frag) (hK : X.K = K := by rfl) : OpR X (binaryOp .Add) (rCatA K) := hK ▸ op_catA
theorem k_slA {X : Cx} (K : PySem.W.Frag) (hK : X.K = K := by rfl) : SlR X (rSlA K) := hK ▸ sl_tupA

/-- names that may be written down -/
def okS (xs : T1) : Bool := xs.all PyData.strOk
def okT (ts : T2) : Bool := ts.all okS
theorem flat_strs : ∀ {xs : T1}, okS xs = true → flatDs (xs.map D.str) = true
  | [], _ => rfl
  | x :: xs, h => by
    unfold okS at h
    rw [List.all_cons, Bool.and_eq_true] at h
    exact Bool.and_eq_true_iff.mpr ⟨h.1, flat_strs (xs := xs) h.2⟩
theorem flat_tS {xs : T1} (h : okS xs = true) : flatD (tS xs) = true := flat_strs h
theorem flat_tSs : ∀ {ts : T2}, okT ts = true → flatDs (ts.map tS) = true
  | [], _ => rfl
  | x :: xs, h => by
    unfold okT at h
    rw [List.all_cons, Bool.and_eq_true] at h
    exact Bool.and_eq_true_iff.mpr ⟨flat_tS h.1, flat_tSs (ts := xs) h.2⟩
theorem pds_strs : ∀ xs : T1, pds (xs.map D.str) = xs.map PyData.str
  | [] => rfl
  | x :: xs => by rw [List.map_cons, List.map_cons, pds, pds_strs xs]; rfl
theorem pd_tS (xs : T1) : pd (tS xs) = tupP xs := by
  show PyData.tuple (pds (xs.map D.str)) = _
  rw [pds_strs]
theorem pds_tSs : ∀ ts : T2, pds (ts.map tS) = ts.map tupP
  | [] => rfl
  | x :: xs => by rw [List.map_cons, List.map_cons, pds, pds_tSs xs, pd_tS]
theorem eqvAll_strs : ∀ xs ys : T1, PyData.eqvAll (xs.map .str) (ys.map .str) = decide (xs = ys)
  | [], [] => by simp [PyData.eqvAll]
  | [], _ :: _ => by simp [PyData.eqvAll]
  | _ :: _, [] => by simp [PyData.eqvAll]
  | x :: xs, y :: ys => by
    show PyData.eqvAll (.str x :: xs.map .str) (.str y :: ys.map .str) = _
    rw [PyData.eqvAll, eqvAll_strs xs ys]
    have e : (x == y) = decide (x = y) := by
      rw [Bool.eq_iff_iff, beq_iff_eq, decide_eq_true_eq]
    simp [PyData.eqv, e]
theorem eqv_tupP (xs ys : T1) : PyData.eqv (tupP xs) (tupP ys) = decide (xs = ys) := by
  show PyData.eqv (.tuple (xs.map .str)) (.tuple (ys.map .str)) = _
  rw [PyData.eqv, eqvAll_strs]
theorem eqvAll_tupP : ∀ xs ys : T2, PyData.eqvAll (xs.map tupP) (ys.map tupP) = decide (xs = ys)
  | [], [] => by simp [PyData.eqvAll]
  | [], _ :: _ => by simp [PyData.eqvAll]
  | _ :: _, [] => by simp [PyData.eqvAll]
  | x :: xs, y :: ys => by
    show PyData.eqvAll (tupP x :: xs.map tupP) (tupP y :: ys.map tupP) = _
    rw [PyData.eqvAll, eqvAll_tupP xs ys, eqv_tupP]
    simp
theorem depth_tSs : ∀ ts : T2, PyData.depthAll (ts.map tupP) ≤ 1
  | [] => by simp [PyData.depthAll]
  | x :: xs => by
    have h1 := depth_tSs xs
    have h2 := depth_tupP x
    show PyData.depthAll (tupP x :: xs.map tupP) ≤ 1
    rw [PyData.depthAll]
    omega
theorem depth_lT (ts : T2) : (PyData.list (ts.map tupP)).depth ≤ 64 := by
  have := depth_tSs ts
  rw [PyData.depth]
  omega
theorem ro_eqT {a b : T1} (ha : okS a = true) (hb : okS b = true) : RO (rEqD K) (tS a) (tS b) (.bl (decide (a = b))) := by
  have h := ro_eqD (K := K) (flat_tS ha) (flat_tS hb) (by rw [pd_tS]; have := depth_tupP a; omega) (by rw [pd_tS]; have := depth_tupP b; omega)
  rw [pd_tS, pd_tS, eqv_tupP] at h
  exact h
theorem ro_neT {a b : T1} (ha : okS a = true) (hb : okS b = true) : RO (rNeD K) (tS a) (tS b) (.bl (!decide (a = b))) := by
  have h := ro_neD (K := K) (flat_tS ha) (flat_tS hb) (by rw [pd_tS]; have := depth_tupP a; omega) (by rw [pd_tS]; have := depth_tupP b; omega)
  rw [pd_tS, pd_tS, eqv_tupP] at h
  exact h
theorem pd_lst (ts : T2) : pd (.lst (ts.map tS)) = .list (ts.map tupP) := by
  show PyData.list (pds (ts.map tS)) = _
  rw [pds_tSs]
theorem ro_eqTs {a b : T2} (ha : okT a = true) (hb : okT b = true) : RO (rEqD K) (.lst (a.map tS)) (.lst (b.map tS)) (.bl (decide (a = b))) := by
  have h := ro_eqD (K := K) (x := .lst (a.map tS)) (y := .lst (b.map tS)) (flat_tSs ha) (flat_tSs hb) (by rw [pd_lst]; exact depth_lT a) (by rw [pd_lst]; exact depth_lT b)
  rw [pd_lst, pd_lst, PyData.eqv, eqvAll_tupP] at h
  exact h
theorem ro_neTs {a b : T2} (ha : okT a = true) (hb : okT b = true) : RO (rNeD K) (.lst (a.map tS)) (.lst (b.map tS)) (.bl (!decide (a = b))) := by
  have h := ro_neD (K := K) (x := .lst (a.map tS)) (y := .lst (b.map tS)) (flat_tSs ha) (flat_tSs hb) (by rw [pd_lst]; exact depth_lT a) (by rw [pd_lst]; exact depth_lT b)
  rw [pd_lst, pd_lst, PyData.eqv, eqvAll_tupP] at h
  exact h
theorem ro_notInT {a : T1} {ts : T2} (ha : okS a = true) (hb : okT ts = true) : RO (rNotInD K) (tS a) (.lst (ts.map tS)) (.bl (!decide (a ∈ ts))) := by
  have h := ro_notInD (K := K) (x := tS a) (ds := ts.map tS) (flat_tS ha) (flat_tSs hb) (by rw [pd_tS]; have := depth_tupP a; omega) (by rw [pds_tSs]; exact depth_lT ts)
  rw [pds_tSs, pd_tS, List.any_map] at h
  have e : ts.any ((fun z => PyData.eqv z (tupP a)) ∘ tupP) = decide (a ∈ ts) := by
    rw [Bool.eq_iff_iff, List.any_eq_true, decide_eq_true_eq]
    constructor
    · rintro ⟨y, hy, q⟩
      have q' : PyData.eqv (tupP y) (tupP a) = true := q
      rw [eqv_tupP, decide_eq_true_eq] at q'
      exact q' ▸ hy
    · intro hm
      refine ⟨a, hm, ?_⟩
      show PyData.eqv (tupP a) (tupP a) = true
      rw [eqv_tupP, decide_eq_true_eq]
  rw [e] at h
  exact h
/-- xs == [], xs != [] -/
theorem ro_eqNil (hf : flatDs ds = true) (hd : (PyData.list (pds ds)).depth ≤ 64) : RO (rEqD K) (.lst ds) (.lst []) (.bl ds.isEmpty) := by
  have h := ro_eqD (K := K) (x := .lst ds) (y := .lst []) hf rfl hd (by decide)
  have e : PyData.eqv (pd (.lst ds)) (pd (.lst [])) = ds.isEmpty := by
    show PyData.eqv (.list (pds ds)) (.list []) = _
    cases ds <;> simp [pds, PyData.eqv, PyData.eqvAll]
  rw [e] at h; exact h
theorem ro_neNil (hf : flatDs ds = true) (hd : (PyData.list (pds ds)).depth ≤ 64) : RO (rNeD K) (.lst ds) (.lst []) (.bl (!ds.isEmpty)) := by
  have h := ro_neD (K := K) (x := .lst ds) (y := .lst []) hf rfl hd (by decide)
  have e : PyData.eqv (pd (.lst ds)) (pd (.lst [])) = ds.isEmpty := by
    show PyData.eqv (.list (pds ds)) (.list []) = _
    cases ds <;> simp [pds, PyData.eqv, PyData.eqvAll]
  rw [e] at h; exact h
/-- t > u, tuples of texts -/
def rGtT (K : PySem.W.Frag) : R2 := fun x y H Q => ∃ a b, Dp K H x (tupP a) ∧ Dp K H y (tupP b) ∧ Q (.bl (ltT b a)) H
theorem op_gtT {X : Cx} (hu : X.A.units + 64 < cLine) : OpR X (compareOp .Gt) (rGtT X.K) := by
  intro pins s σ H x y v u Q I rx ry h
  obtain ⟨a, b, hd, he, q⟩ := h
  obtain ⟨as, r1⟩ := Dp.reads I _ x v hd rx
  obtain ⟨bs, r2⟩ := Dp.reads I _ y u he ry
  refine PySem.W.gt_data r1 r2 (alike_tupP a b) (fun z => nomatch z) ?_ ?_
  · have h1 := depth_tupP a
    have : min (tupP a).depth (tupP b).depth ≤ (tupP a).depth := Nat.min_le_left _ _
    omega
  · rw [dataLt_tupP]
    exact ⟨.bl _, H, I, rfl, q⟩
theorem k_gtT {X : Cx} (K : PySem.W.Frag) (hu : X.A.units + 64 < cLine) (hK : X.K = K := by rfl) : OpR X (compareOp .Gt) (rGtT K) := hK ▸ op_gtT hu
theorem ro_gtT {a b : T1} (ha : okS a = true) (hb : okS b = true) : RO (rGtT K) (tS a) (tS b) (.bl (ltT b a)) := ro_val fun G v w hv hw H e Q q =>
  ⟨a, b, by rw [← pd_tS]; exact rp_dp e _ v (flat_tS ha) hv, by rw [← pd_tS]; exact rp_dp e _ w (flat_tS hb) hw, q _ (.bl _)⟩
end
end Up

/-! text UpEnum -/
set_option Elab.async false
set_option linter.all false
set_option maxRecDepth 100000
set_option maxHeartbeats 4000000
/-! enumerate over a tuple or a list -/
namespace UpS
open PySem PySem.Spec PyProof.Rows L2

/-- the tuple at a as it stands at each turn, each item in a new pair -/
def IteT (K : PySem.W.Frag) (a : Addr) : It :=
  ⟨fun i H => ∃ (xs : List V) (x : V), SqT K H a xs ∧ xs[i]? = some x, fun i H v H' => ∃ T x, v = .ref T ∧ H T = none ∧ H' = upd H T (.tup [.int (i : Nat), x]) ∧ ∀ xs, SqT K H a xs → xs[i]? = some x, fun i H => ∃ xs : List V, SqT K H a xs ∧ xs.length ≤ i⟩
theorem turn_enumT {P : Program} {w : World} {K : PySem.W.Frag} {elts : List Expr} {kk : Nat} {tpos : Pos} (a e it : Addr) :
    Turn P w K (.Tuple elts kk tpos) (IteT K a) [e, it] e (fun i h => (∃ old, IsEnum h e it ((i : Nat) : Int) old) ∧ h.IsTupleIter it a i ∧ e ≠ it ∧ a ≠ it ∧ a ≠ e) where
  mem := by simp
  obj := fun i h st b hb => by
    obtain ⟨⟨old, he⟩, ⟨o, ho, hc, hd⟩, _⟩ := st
    have e' : b = e ∨ b = it := by simpa using hb
    rcases e' with z | z
    · rw [z]; exact ⟨_, he, fun v q => nomatch q⟩
    · rw [z]; exact ⟨o, ho, fun v q => by rw [hd] at q; cases q⟩
  keep := fun i h h' st k => let ⟨⟨old, he⟩, hi, r⟩ := st; ⟨⟨old, k e (by simp) _ he⟩, hi.at fun o q => k it (by simp) o q, r⟩
  item := by
    intro X hP hw hK hc i pins s σ H E I hf st hg
    subst hP hw hK
    obtain ⟨⟨old, he⟩, hit, hne, hai, hae⟩ := st
    obtain ⟨xs, x, hq, hx⟩ := hg
    obtain ⟨its, rv, p, hz⟩ := I.tuple hq
    obtain ⟨u, hu, ru⟩ := rv.get hx
    have hel : e < s.heap.objs.size := Heap.lt_size he
    have hil : it < s.heap.objs.size := by obtain ⟨_, q, _⟩ := hit; exact Heap.lt_size q
    have hxi : i < its.toArray.size := by
      have := (List.getElem?_eq_some_iff.mp hu).1
      simpa using this
    refine wpAny_pyNext_enum_itemD (Draws.tuple (by simp [I.ok.hd hc]) it a hai its.toArray) he ⟨hit, p⟩ hxi hne (by simp only [List.mem_cons, List.not_mem_nil, or_false, not_or]; exact ⟨hne, fun z => hae z.symm⟩) fun x' h' tk hx' ho st' hT hsz hk => ?_
    have e1 : x' = u := by
      have q : its.toArray[i]? = some u := by simpa using hu
      have hx2 : its.toArray[i]? = some x' := hx'
      rw [q] at hx2
      exact (Option.some.inj hx2).symm
    subst e1
    refine ⟨_, rfl, wpAny_letOwnedTupleGo_enum (s := { s with heap := h', toks := tk + 1 }) ho fun h'' he' sb => ?_⟩
    have hT2 : h''.get? s.heap.objs.size = some { cls := .type "tuple", data := .seq #[.int i tk, x'] } := (sb.2 _ (Nat.ne_of_gt hel)).trans hT
    have new : ObjOk X.prog X.w (upd H s.heap.objs.size (.tup [.int (i : Nat), x])) h'' s.heap.objs.size (.tup [.int (i : Nat), x]) :=
      ⟨by show 2 ≤ sizeLine; decide, [.int i tk, x'], .cons ⟨_, rfl⟩ (.cons ru .nil), ⟨_, hT2, rfl, _, rfl⟩⟩
    have I1 : Inv X pins σ (upd H s.heap.objs.size (.tup [.int (i : Nat), x])) { s with heap := h'', toks := tk + 1 } :=
      I.turnedNew (ch := [e, it]) (fun b ob hb q => (sb.2 b (fun z => hb (by simp [z]))).trans (hk b ob (fun z => hb (by simp [z])) (fun z => hb (by simp [z])) q)) hf (Nat.le_refl _) new
    refine ⟨.ref s.heap.objs.size, _, I1, rfl, ⟨_, x, rfl, I.hok.fresh (Nat.le_refl _), rfl, fun ys hy => by rw [I.tuple_inj hy hq]; exact hx⟩, ⟨⟨x', ?_⟩, st'.1.at fun o q => (sb.2 it (Ne.symm hne)).trans q, hne, hai, hae⟩, fun b hb => ?_⟩
    · have e1 : ((i + 1 : Nat) : Int) = (i : Int) + 1 := by omega
      rw [e1]; exact he'
    · have hb' : b < s.heap.objs.size := by
        have e' : b = e ∨ b = it := by simpa using hb
        rcases e' with z | z
        · rw [z]; exact hel
        · rw [z]; exact hil
      rw [upd_ne (Nat.ne_of_lt hb')]
      exact (hf b hb).1
  done := by
    intro X hP hw hK hc i pins s σ H E I hf st hg
    subst hP hw hK
    obtain ⟨⟨old, he⟩, hit, hne, hai, hae⟩ := st
    obtain ⟨xs, hq, hx⟩ := hg
    obtain ⟨its, rv, p, hz⟩ := I.tuple hq
    obtain ⟨f0, f1, f2, f3, f4, f5⟩ := hf it (by simp)
    have hl := rv.length
    have hT : s.TypeIs (.ref e) "enumerate" := ⟨_, he, rfl⟩
    unfold pyNext
    refine wpAny_bind (wpAny_attempt (wpAny_callSpecial?_slot (name := Str.ofString "__next__") hT F.slot_enumerate_next
      (wpAny_call_entry F.slot_enumerate_next hT F.entry_enumerate_next ?_ (F.args_enumerate_next_1 _))))
    show wpAny _ _ (field (.ref e) 2 >>= _) _ _ _
    refine wpAny_bind (wpAny_field he rfl (x := .ref it) rfl ?_)
    refine wpAny_bind (wpAny_nextOf_tuple_end (by simp [I.ok.hd hc]) hit p (by simp; omega) fun h' x he' hx' => ?_)
    obtain ⟨o, ho, hcl⟩ := hx'
    refine wpAny_bind (wpAny_isInstance (T := "StopIteration") (b := true) ⟨o, ho, hcl⟩ isSubtype_stop ?_)
    exact wpAny_pure ⟨rfl, I.turned (t' := s.toks) (fun b o hb q => he' b o hb q) f0 f1 f3 f4 f5⟩
  self := fun A i s Q E st h => let ⟨⟨_, he⟩, _⟩ := st; wpAny_pyIter_enum he h
theorem meets_enumerate_tup (l : Addr) (items : Array Value) (n : Nat) (dct : Option Addr) (sl : Array (Option Value)) :
    Meets (Builtin.«enumerate.__new__» ⟨[.type "enumerate", .ref l], []⟩) (fun _ R s => s.heap.get? l = some { cls := .type "tuple", dict := dct, data := .seq items n, slots := sl } ∧
      R (.ok (.ret (.ref (s.heap.push { cls := .type "tuple_iterator", data := .fields #[.ref l, .int 0 0] }).objs.size)))
        { s with heap := (s.heap.push { cls := .type "tuple_iterator", data := .fields #[.ref l, .int 0 0] }).push { cls := .type "enumerate", data := .fields #[.none, .bool false, .ref s.heap.objs.size, rawInt 0, .none, .none] } }) :=
  .of_wp fun prog w A R s h => by
    obtain ⟨hp, g, d, tk, os⟩ := s; obtain ⟨hl, h⟩ := h
    have hsub := sub_enumerate
    have hL : Heap.IsTuple (Shared.heap ⟨hp, g, d, tk, os⟩) l items := ⟨_, hl, rfl, n, rfl⟩
    wp_walk using AutoSeq1.wpAny_loadPart' hl
    refine wpAny_stack_any fun st => wpAny_pure ?_
    split
    · rename_i c _ _ _ _ _
      cases (c == Value.type "enumerate")
      · wp_walk using AutoSeq1.wpAny_loadPart' hl, wpAny_pyIter_tuple hL
        exact ⟨_, rfl, h⟩
      · wp_walk using AutoSeq1.wpAny_loadPart' hl, wpAny_pyIter_tuple hL
        exact ⟨_, rfl, h⟩
    · wp_walk using AutoSeq1.wpAny_loadPart' hl, wpAny_pyIter_tuple hL
      exact ⟨_, rfl, h⟩
section
variable {prog : Program} {w : World} {A : Around} {E : Value → Shared → Prop} {s : Shared}
theorem call_enumerate_tup {l : Addr} {items : Array Value} {Q : Value → Shared → Prop} (hL : s.heap.IsTuple l items)
    (h : ∀ h', IsEnum h' (s.heap.objs.size + 1) s.heap.objs.size 0 .none → h'.IsTupleIter s.heap.objs.size l 0 →
      (∀ b o, s.heap.get? b = some o → h'.get? b = some o) → Q (.ref (s.heap.objs.size + 1)) { s with heap := h' }) :
    wpAny (model prog w) A (call (.type "enumerate") [.ref l]) Q E s := by
  obtain ⟨⟨c, dct, dt, sl⟩, hl, hc, n, hd⟩ := hL
  replace hc : c = .type "tuple" := hc
  replace hd : dt = .seq items n := hd
  subst hc hd
  refine callType_new F.called_enumerate (by decide) (F.typeCall_enumerate_1 _) (F.newCall_enumerate_1 _) (fun obj => F.args_object_init_2 obj _) F.entry_enumerate_new
    (meets_enumerate_tup l items n dct sl) ⟨hl, ?_⟩
  have hz : (s.heap.push { cls := .type "tuple_iterator", data := .fields #[.ref l, .int 0 0] }).objs.size = s.heap.objs.size + 1 := Heap.size_push ..
  show _ ∧ _
  rw [hz]
  have he : IsEnum ((s.heap.push { cls := .type "tuple_iterator", data := .fields #[.ref l, .int 0 0] }).push
      { cls := .type "enumerate", data := .fields #[.none, .bool false, .ref s.heap.objs.size, rawInt 0, .none, .none] }) (s.heap.objs.size + 1) s.heap.objs.size 0 .none := by
    have := Heap.get?_push_size (s.heap.push { cls := .type "tuple_iterator", data := .fields #[.ref l, .int 0 0] })
      (o := { cls := .type "enumerate", data := .fields #[.none, .bool false, .ref s.heap.objs.size, rawInt 0, .none, .none] }) rfl
    rw [hz] at this; exact this
  exact ⟨⟨_, he, rfl⟩, h _ he ⟨_, Heap.get?_push_of_some _ (Heap.get?_push_size _ rfl), rfl, rfl⟩ fun b o x => Heap.get?_push_of_some _ (Heap.get?_push_of_some _ x)⟩
end
def iEnumU (K : PySem.W.Frag) (ta : TA) : TI := fun σ H R => ta σ H fun vs H1 => ∃ a xs, vs = [.ref a] ∧ ((SqL K H1 a xs ∧ R (Ite K a) H1) ∨ (SqT K H1 a xs ∧ R (IteT K a) H1))
theorem pi_enumU {X : Cx} {e : Expr} {ta : TA} {p pos tpos : Pos} {elts : List Expr} {kk : Nat} (hg : Gl X "enumerate") (hm : X.mg "enumerate" = none) (ha : PA X [e] ta) (hs : starEach [e] X.env = [(false, eval e X.env)] := by rfl) :
    PI X (.Tuple elts kk tpos) (.Call (.Name "enumerate" p) [e] [] pos) (iEnumU X.K ta) := by
  refine ⟨fun pins s σ H R I h => ?_⟩
  refine Call_ (ld_blt I hg hm boot_enumerate (PyProof.Rows.callWith_type1 (thn (ha.run pos pins s σ H _ I h) fun us s1 ⟨vs, H1, I1, r1, q1⟩ => ?_) hs rfl))
  obtain ⟨a, xs, ex, q1⟩ := q1
  subst ex
  cases r1 with
  | cons r rr =>
    cases rr
    cases r
    have fr : ∀ b ∈ [s1.heap.objs.size + 1, s1.heap.objs.size], FpOk X pins H1 b := fun b hb => by
      have e' : b = s1.heap.objs.size + 1 ∨ b = s1.heap.objs.size := by simpa using hb
      have hle : s1.heap.objs.size ≤ b := by
        rcases e' with z | z
        · rw [z]; exact Nat.le_add_right _ _
        · rw [z]; exact Nat.le_refl _
      exact I1.fpOk hle (I1.hok.fresh hle)
    rcases q1 with ⟨hq, q⟩ | ⟨hq, q⟩
    · obtain ⟨its, rv, p', hz⟩ := I1.list hq
      refine call_enumerate_list p'.isList fun h' he hit hsz hk => wpAny_pyIter_enum he ?_
      have I2 : Inv X pins σ H1 { s1 with heap := h' } := I1.kept (t' := s1.toks) hk
      exact ⟨s1.heap.objs.size + 1, [s1.heap.objs.size + 1, s1.heap.objs.size], _, _, H1, rfl, I2, turn_enum a (s1.heap.objs.size + 1) s1.heap.objs.size, ⟨⟨.none, he⟩, hit, Nat.succ_ne_self _⟩, fr, q⟩
    · obtain ⟨its, rv, p', hz⟩ := I1.tuple hq
      have hal : a < s1.heap.objs.size := by obtain ⟨_, q, _⟩ := p'; exact Heap.lt_size q
      refine call_enumerate_tup p' fun h' he hit hk => wpAny_pyIter_enum he ?_
      have I2 : Inv X pins σ H1 { s1 with heap := h' } := I1.kept (t' := s1.toks) hk
      exact ⟨s1.heap.objs.size + 1, [s1.heap.objs.size + 1, s1.heap.objs.size], _, _, H1, rfl, I2, turn_enumT a (s1.heap.objs.size + 1) s1.heap.objs.size, ⟨⟨.none, he⟩, hit, Nat.succ_ne_self _, Nat.ne_of_lt hal, Nat.ne_of_lt (Nat.lt_succ_of_lt hal)⟩, fr, q⟩
theorem k_enumU (K : PySem.W.Frag) {X : Cx} {e : Expr} {ta : TA} {p pos tpos : Pos} {elts : List Expr} {kk : Nat} (hg : Gl X "enumerate") (hm : X.mg "enumerate" = none) (ha : PA X [e] ta) (hK : X.K = K := by rfl) (hs : starEach [e] X.env = [(false, eval e X.env)] := by rfl) :
    PI X (.Tuple elts kk tpos) (.Call (.Name "enumerate" p) [e] [] pos) (iEnumU K ta) := hK ▸ pi_enumU hg hm ha hs
theorem k_zipA (K : PySem.W.Frag) {X : Cx} {e e2 : Expr} {ta : TA} {p pos tpos : Pos} {elts : List Expr} {kk : Nat} (hg : Gl X "zip") (hm : X.mg "zip" = none) (ha : PA X [e, e2] ta) (hK : X.K = K := by rfl)
    (hs : starEach [e, e2] X.env = (false, eval e X.env) :: starEach [e2] X.env := by rfl) (hpl : (backTo pos (starEach [e2] X.env)).any (·.1) = false := by rfl) :
    PI X (.Tuple elts kk tpos) (.Call (.Name "zip" p) [e, e2] [] pos) (RZ.iZipA K ta) := hK ▸ RZ.pi_zipA hg hm ha hs hpl
end UpS
namespace Up
open PySem PySem.Spec PyProof.Rows L2 UpS
/-- the pairs of enumerate -/
def enumD (ds : List D) : List D := (List.range ds.length).map fun (i : Nat) => D.tup [.int (i : Int), ds.getD i .non]
theorem enumD_at {ds : List D} {i : Nat} {d : D} (h : (enumD ds)[i]? = some d) : ∃ x, ds[i]? = some x ∧ d = .tup [.int (i : Int), x] := by
  unfold enumD at h
  rw [List.getElem?_map] at h
  cases q : (List.range ds.length)[i]? with
  | none => rw [q] at h; cases h
  | some j =>
    rw [q] at h
    have hi : i < ds.length := by
      have := (List.getElem?_eq_some_iff.mp q).1
      simpa using this
    have e : j = i := by
      have := List.getElem?_range hi
      rw [this] at q; exact (Option.some.inj q).symm
    subst e
    refine ⟨ds[j], List.getElem?_eq_getElem hi, ?_⟩
    have h' := (Option.some.inj h).symm
    rw [h']
    show D.tup [.int (j : Int), ds.getD j .non] = _
    rw [List.getD_eq_getElem?_getD, List.getElem?_eq_getElem hi]; rfl
theorem enumD_len (ds : List D) : (enumD ds).length = ds.length := by simp [enumD]
section
variable {K : PySem.W.Frag} {σ : L2.St} {G : Hp} {ta : TA} {ds es : List D}
theorem gi_enum {d : D} (hd : d = .lst ds ∨ d = .tup ds) (h : GA ta σ G [d]) : GI (iEnumU K ta) σ G (enumD ds) := fun H e R q => h H e _ fun vs G1 H1 g r => by
  cases r with
  | cons r t =>
    cases t
    rcases hd with rfl | rfl
    · cases r with
      | @lst a xs _ ha rs =>
        have hl := rs.len
        refine ⟨a, xs, rfl, .inl ⟨sqL_of g.gh ha, q _ _ _ g ⟨fun i H hi z => ?_, fun H z => ?_, fun i H v H' hi z y G d e1 e2 hd => ?_⟩⟩⟩
        · rw [enumD_len] at hi
          have hi' : i < xs.length := by omega
          exact ⟨xs, xs[i], sqL_of z ha, by simp [hi']⟩
        · exact ⟨xs, sqL_of z ha, by rw [enumD_len]; omega⟩
        · obtain ⟨T, x, rfl, hT, rfl, hx⟩ := y
          obtain ⟨x', hx', rfl⟩ := enumD_at hd
          obtain ⟨v', hv', rv⟩ := rs.get' hx'
          have := hx xs (sqL_of z ha)
          rw [hv'] at this
          cases this
          exact ⟨_, (Gr.refl e2).data hT, .tup upd_same (.cons (.int _) (.cons (rv.mono (e1.trans (Ex.new (e2.free hT)))) .nil))⟩
    · cases r with
      | @tup a xs _ ha rs =>
        have hl := rs.len
        refine ⟨a, xs, rfl, .inr ⟨sqT_of g.gh ha, q _ _ _ g ⟨fun i H hi z => ?_, fun H z => ?_, fun i H v H' hi z y G d e1 e2 hd => ?_⟩⟩⟩
        · rw [enumD_len] at hi
          have hi' : i < xs.length := by omega
          exact ⟨xs, xs[i], sqT_of z ha, by simp [hi']⟩
        · exact ⟨xs, sqT_of z ha, by rw [enumD_len]; omega⟩
        · obtain ⟨T, x, rfl, hT, rfl, hx⟩ := y
          obtain ⟨x', hx', rfl⟩ := enumD_at hd
          obtain ⟨v', hv', rv⟩ := rs.get' hx'
          have := hx xs (sqT_of z ha)
          rw [hv'] at this
          cases this
          exact ⟨_, (Gr.refl e2).data hT, .tup upd_same (.cons (.int _) (.cons (rv.mono (e1.trans (Ex.new (e2.free hT)))) .nil))⟩
/-- the pairs of zip -/
def zipD (ds es : List D) : List D := List.zipWith (fun x y => D.tup [x, y]) ds es
theorem zipD_at {i : Nat} {d : D} (h : (zipD ds es)[i]? = some d) : ∃ x y, ds[i]? = some x ∧ es[i]? = some y ∧ d = .tup [x, y] := by
  unfold zipD at h
  rw [List.getElem?_zipWith] at h
  cases p : ds[i]? with
  | none => rw [p] at h; cases h
  | some x =>
    cases q : es[i]? with
    | none => rw [p, q] at h; cases h
    | some y => rw [p, q] at h; exact ⟨x, y, rfl, rfl, (Option.some.inj h).symm⟩
theorem gi_zip {d f : D} (hd : (d = .lst ds ∧ f = .lst es) ∨ (d = .tup ds ∧ f = .tup es)) (h : GA ta σ G [d, f]) : GI (RZ.iZipA K ta) σ G (zipD ds es) := fun H e R q => h H e _ fun vs G1 H1 g r => by
  have zl : (zipD ds es).length = min ds.length es.length := by simp [zipD]
  cases r with
  | cons r t =>
    cases t with
    | cons r' t =>
      cases t
      rcases hd with ⟨rfl, rfl⟩ | ⟨rfl, rfl⟩
      · cases r with
        | @lst a xs _ ha rs =>
          cases r' with
          | @lst b ys _ hb rs' =>
            have hl := rs.len
            have hl' := rs'.len
            refine ⟨a, b, xs, ys, rfl, .inl ⟨sqL_of g.gh ha, sqL_of g.gh hb, q _ _ _ g ⟨fun i H hi z => ?_, fun H z => ?_, fun i H v H' hi z y G d e1 e2 hd => ?_⟩⟩⟩
            · rw [zl] at hi
              have hi' : i < xs.length := by omega
              have hi2 : i < ys.length := by omega
              exact ⟨xs, ys, xs[i], ys[i], sqL_of z ha, sqL_of z hb, by simp [hi'], by simp [hi2]⟩
            · exact ⟨xs, ys, sqL_of z ha, sqL_of z hb, by rw [zl]; omega⟩
            · obtain ⟨T, x, y, rfl, hT, rfl, hx, hy⟩ := y
              obtain ⟨x', y', hx', hy', rfl⟩ := zipD_at hd
              obtain ⟨v1, hv1, rv1⟩ := rs.get' hx'
              obtain ⟨v2, hv2, rv2⟩ := rs'.get' hy'
              have h1 := hx xs (sqL_of z ha)
              have h2 := hy ys (sqL_of z hb)
              rw [hv1] at h1; rw [hv2] at h2
              cases h1; cases h2
              have m := e1.trans (Ex.new (o := HO.tup [x, y]) (e2.free hT))
              exact ⟨_, (Gr.refl e2).data hT, .tup upd_same (.cons (rv1.mono m) (.cons (rv2.mono m) .nil))⟩
      · cases r with
        | @tup a xs _ ha rs =>
          cases r' with
          | @tup b ys _ hb rs' =>
            have hl := rs.len
            have hl' := rs'.len
            refine ⟨a, b, xs, ys, rfl, .inr ⟨sqT_of g.gh ha, sqT_of g.gh hb, q _ _ _ g ⟨fun i H hi z => ?_, fun H z => ?_, fun i H v H' hi z y G d e1 e2 hd => ?_⟩⟩⟩
            · rw [zl] at hi
              have hi' : i < xs.length := by omega
              have hi2 : i < ys.length := by omega
              exact ⟨xs, ys, xs[i], ys[i], sqT_of z ha, sqT_of z hb, by simp [hi'], by simp [hi2]⟩
            · exact ⟨xs, ys, sqT_of z ha, sqT_of z hb, by rw [zl]; omega⟩
            · obtain ⟨T, x, y, rfl, hT, rfl, hx, hy⟩ := y
              obtain ⟨x', y', hx', hy', rfl⟩ := zipD_at hd
              obtain ⟨v1, hv1, rv1⟩ := rs.get' hx'
              obtain ⟨v2, hv2, rv2⟩ := rs'.get' hy'
              have h1 := hx xs (sqT_of z ha)
              have h2 := hy ys (sqT_of z hb)
              rw [hv1] at h1; rw [hv2] at h2
              cases h1; cases h2
              have m := e1.trans (Ex.new (o := HO.tup [x, y]) (e2.free hT))
              exact ⟨_, (Gr.refl e2).data hT, .tup upd_same (.cons (rv1.mono m) (.cons (rv2.mono m) .nil))⟩
end
end Up

/-! text Up3 -/
set_option Elab.async false
set_option linter.all false
set_option maxRecDepth 100000
set_option maxHeartbeats 4000000
/-! the package's defs, one by one -/
namespace Up
open PySem PySem.Spec PyProof.Rows L2

/-- built-in names that the module leaves as they are -/
structure Mo (mg : Str → Option Value) : Prop where
  abs_ : mg "abs" = none
  all_ : mg "all" = none
  any_ : mg "any" = none
  bool_ : mg "bool" = none
  dict_ : mg "dict" = none
  enumerate_ : mg "enumerate" = none
  int_ : mg "int" = none
  isinstance_ : mg "isinstance" = none
  len_ : mg "len" = none
  list_ : mg "list" = none
  range_ : mg "range" = none
  set_ : mg "set" = none
  sorted_ : mg "sorted" = none
  str_ : mg "str" = none
  sum_ : mg "sum" = none
  tuple_ : mg "tuple" = none
  zip_ : mg "zip" = none
/-- a def stands -/
def Df (K : PySem.W.Frag) (mg : Str → Option Value) (x : Str) (st : Stmt) (ps : List Str) : Prop := ∃ f fd, Fun K x x st f fd ∧ Binds K fd ps [] ∧ mg x = some (.ref f)
/-- .. and keeps its promise -/
def At (P : Program) (w : World) (K : PySem.W.Frag) (mg : Str → Option Value) (base : Heap) (x : Str) (st : Stmt) (ps : List Str) (k : Nat) (sp : Sp) : Prop :=
  ∃ f fd, Fun K x x st f fd ∧ Binds K fd ps [] ∧ mg x = some (.ref f) ∧ FnOk P w K mg base CX0 k f fd ps sp

/-! ### data of this program -/
abbrev Bk := List (Str × T2)
def bkT (b : Bk) : D := .ftup (b.map fun p => .tup [.str p.1, tT p.2])
def bkL (b : Bk) : D := .lst (b.map fun p => .lst [.str p.1, lT p.2])
def IsBk (d : D) (b : Bk) : Prop := d = bkT b ∨ d = bkL b
/-- a set or a row, tuple or list -/
def IsT1 (d : D) (xs : T1) : Prop := d = tS xs ∨ d = lS xs
def IsT2 (d : D) (xs : T2) : Prop := d = tT xs ∨ d = lT xs
def tbK (b : Bk) : List (Key × D) := b.map fun p => (Sum.inr p.1, tT p.2)
def IsTb (d : D) (b : Bk) : Prop := d = .dk (tbK b) ∨ d = .fk (tbK b)

section
variable {K : PySem.W.Frag} {σ : L2.St} {G H : Hp} {tl te ta tb : TE} {Q : L2.St → Hp → Prop}
theorem gi_T1 {d : D} {xs : T1} (h : GD tl σ G d) (hd : IsT1 d xs) : GI (iSeq K tl) σ G (xs.map D.str) := by
  rcases hd with rfl | rfl
  · exact gi_seqT h
  · exact gi_seqL h
def bkItem (l : Bool) (p : Str × T2) : D := if l then .lst [.str p.1, lT p.2] else .tup [.str p.1, tT p.2]
theorem gi_Bk {d : D} {b : Bk} (h : GD tl σ G d) (hd : IsBk d b) : ∃ l : Bool, GI (iSeq K tl) σ G (b.map (bkItem l)) := by
  rcases hd with rfl | rfl
  · exact ⟨false, gi_seqF h⟩
  · exact ⟨true, gi_seqL h⟩
def needD (l : Bool) (n : T2) : D := if l then lT n else tT n
theorem tg_Bk {l : Bool} {i j : Nat} {p : Str × T2} {v : V} (r : Rp G (bkItem l p) v) (e : Ex G H) (k : ∀ a b, Rp G (.str p.1) a → Rp G (needD l p.2) b → Q ((σ.set i (some a)).set j (some b)) H) : gPair K (gCons (gName i) (gCons (gName j) gNil)) v σ H Q := by
  cases l with
  | false => exact .inl (tg_tup2 r e k)
  | true => exact .inr (tg_lst2 r e k)
theorem gd_inT1 {d : D} {neg : Bool} {s : Str} {xs : T1} (ha : GD ta σ G (.str s)) (hb : GD tb σ G d) (hd : IsT1 d xs) : GD (tOp (rIn K neg) ta tb) σ G (.bl (notB neg (decide (s ∈ xs)))) := by
  rcases hd with rfl | rfl
  · exact gd_op ha hb ro_inT
  · exact gd_op ha hb ro_inL
theorem bls_map {α : Type} (xs : List α) (f : α → Bool) : xs.map (fun x => D.bl (f x)) = (xs.map f).map D.bl := by rw [List.map_map]; rfl
theorem strs_map {α : Type} (xs : List α) (f : α → Str) : xs.map (fun x => D.str (f x)) = (xs.map f).map D.str := by rw [List.map_map]; rfl
theorem gd_allm {α : Type} {xs : List α} {f : α → Bool} {tr : TA} (h : GA tr σ G [.lst (xs.map fun x => D.bl (f x))]) : GD (tCB (rAll K) tr) σ G (.bl (xs.all f)) := by
  rw [bls_map] at h
  have e : xs.all f = (xs.map f).all id := by rw [List.all_map]; rfl
  rw [e]
  exact gd_cb h rb_all
theorem gd_anym {α : Type} {xs : List α} {f : α → Bool} {tr : TA} (h : GA tr σ G [.lst (xs.map fun x => D.bl (f x))]) : GD (tCB (rAny K) tr) σ G (.bl (xs.any f)) := by
  rw [bls_map] at h
  have e : xs.any f = (xs.map f).any id := by rw [List.any_map]; rfl
  rw [e]
  exact gd_cb h rb_any
end

theorem Rps.i1 {G : Hp} {x : D} {vs : List V} (h : Rps G [x] vs) : ∃ a, vs = [a] ∧ Rp G x a := by
  cases h with | cons r t => cases t; exact ⟨_, rfl, r⟩
theorem Rps.i2 {G : Hp} {x y : D} {vs : List V} (h : Rps G [x, y] vs) : ∃ a b, vs = [a, b] ∧ Rp G x a ∧ Rp G y b := by
  cases h with | cons r t => obtain ⟨b, rfl, rb⟩ := t.i1; exact ⟨_, _, rfl, r, rb⟩
theorem Rps.i3 {G : Hp} {x y z : D} {vs : List V} (h : Rps G [x, y, z] vs) : ∃ a b c, vs = [a, b, c] ∧ Rp G x a ∧ Rp G y b ∧ Rp G z c := by
  cases h with | cons r t => obtain ⟨b, c, rfl, rb, rc⟩ := t.i2; exact ⟨_, _, _, rfl, r, rb, rc⟩
theorem Rps.i4 {G : Hp} {x y z w : D} {vs : List V} (h : Rps G [x, y, z, w] vs) : ∃ a b c d, vs = [a, b, c, d] ∧ Rp G x a ∧ Rp G y b ∧ Rp G z c ∧ Rp G w d := by
  cases h with | cons r t => obtain ⟨b, c, d, rfl, rb, rc, rd⟩ := t.i3; exact ⟨_, _, _, _, rfl, r, rb, rc, rd⟩

section
variable {P : Program} {w : World} {K : PySem.W.Frag} {mg : Str → Option Value} {base : Heap}

/-! ### units -/
def fUnits : List D → D → Prop := fun ds d => ∃ x b, ds = [x] ∧ IsBk x b ∧ b.length ≤ 1000 ∧ d = tS (b.map (·.1))
theorem ok_units (M : Mo mg) (h : Df K mg "units" s_units p_units) : At P w K mg base "units" s_units p_units 1 (spD 1 fUnits) := by
  obtain ⟨f, fd, F, b, g⟩ := h
  refine ⟨f, fd, F, b, g, F.ok c_units (fun vs H Q E h => h.1) (fun cdv A outer s H vs Q E hr h => ?_)⟩
  obtain ⟨_, ds, d, G, e, r, ⟨x, bk, rfl, hb, hl, rfl⟩, q⟩ := h
  obtain ⟨v0, rfl, r0⟩ := r.i1
  refine ⟨_, (pss_one
    (ps_ret (pe_callTy (k_tuple K) (by rfl) M.tuple_ PyProof.Rows.boot_tuple (pa_cons (pe_lc (own := [("unit", 1), ("needs", 2)]) rfl c_units.nd (k_seq K (pv 0)) (blkOk_by (by kernel_rfl)) (fun _ _ _ _ _ => (k_pair K (pgs_cons (pg_name (i := 1) c_units.nd rfl (by first | exact .inl rfl | exact .inr rfl)) (pgs_cons (pg_name (i := 2) c_units.nd rfl (by first | exact .inl rfl | exact .inr rfl)) pgs_nil)))) (fun _ _ _ _ _ => pts_nil) (fun _ _ _ _ _ => (pv 1))) pa_nil)))), ?_⟩
  obtain ⟨l, gi⟩ := gi_Bk (K := K) (σ := start n_units [v0]) (gd_var (i := 0) rfl r0) hb
  have lc := gl_lc (p := fun _ => true) (f := fun p : Str × T2 => D.str p.1) gi (by omega) (vs := [1, 2]) (g := gPair K (gCons (gName 1) (gCons (gName 2) gNil))) (tt := tYes) (te := tVar 1) (fun p _ G' H' v e1 e2 rp Q q => tg_Bk rp e2 fun a b ra rb => q _ rfl (fun H e Q q => q _ _ (.refl e)) fun _ => gd_var rfl ra)
  rw [List.filter_eq_self.mpr (fun _ _ => rfl), strs_map] at lc
  exact gd_cb (ga_one lc.gd) rb_tupL H e Q q

/-! ### is_within -/
def isWithin (a b : T1) : Bool := a.all fun x => decide (x ∈ b)
def fIsWithin : List D → D → Prop := fun ds d => ∃ x y a b, ds = [x, y] ∧ IsT1 x a ∧ IsT1 y b ∧ a.length ≤ 1000 ∧ d = .bl (isWithin a b)
theorem ok_is_within (M : Mo mg) (h : Df K mg "is_within" s_is_within p_is_within) : At P w K mg base "is_within" s_is_within p_is_within 1 (spD 2 fIsWithin) := by
  obtain ⟨f, fd, F, b, g⟩ := h
  refine ⟨f, fd, F, b, g, F.ok c_is_within (fun vs H Q E h => h.1) (fun cdv A outer s H vs Q E hr h => ?_)⟩
  obtain ⟨_, ds, d, G, e, r, ⟨x, y, a, b, rfl, ha, hb, hl, rfl⟩, q⟩ := h
  obtain ⟨v0, v1, rfl, rx, ry⟩ := r.i2
  refine ⟨_, (pss_one
    (ps_ret (pe_callB (k_all K) (by rfl) M.all_ PyProof.Rows.boot_all (pa_cons (pe_lc (own := [("unit", 2)]) rfl c_is_within.nd (k_seq K (pv 0)) (blkOk_by (by kernel_rfl)) (fun _ _ _ _ _ => (pg_name (i := 2) c_is_within.nd rfl (by first | exact .inl rfl | exact .inr rfl))) (fun _ _ _ _ _ => pts_nil) (fun _ _ _ _ _ => (pe_cmpR (k_in K) (pv 2) (pv 1) (by rfl)))) pa_nil)))), ?_⟩
  exact gd_allm (ga_one (gl_lc0 (gi_T1 (gd_var (i := 0) rfl rx) ha) (by omega) (fun _ => rfl) fun z hz G' v e' rz => gd_inT1 (neg := false) (gd_var rfl rz) (gd_var (i := 1) rfl (ry.mono e')) hb).gd) H e Q q
/-! ### without -/
def fWithout : List D → D → Prop := fun ds d => ∃ x a u, ds = [x, .str u] ∧ IsT1 x a ∧ a.length ≤ 1000 ∧ d = tS (a.filter fun o => !decide (o = u))
theorem ok_without (M : Mo mg) (h : Df K mg "without" s_without p_without) : At P w K mg base "without" s_without p_without 1 (spD 2 fWithout) := by
  obtain ⟨f, fd, F, b, g⟩ := h
  refine ⟨f, fd, F, b, g, F.ok c_without (fun vs H Q E h => h.1) (fun cdv A outer s H vs Q E hr h => ?_)⟩
  obtain ⟨_, ds, d, G, e, r, ⟨x, a, u, rfl, ha, hl, rfl⟩, q⟩ := h
  obtain ⟨v0, v1, rfl, rx, ry⟩ := r.i2
  refine ⟨_, (pss_one
    (ps_ret (pe_callTy (k_tuple K) (by rfl) M.tuple_ PyProof.Rows.boot_tuple (pa_cons (pe_lc (own := [("one", 2)]) rfl c_without.nd (k_seq K (pv 0)) (blkOk_by (by kernel_rfl)) (fun _ _ _ _ _ => (pg_name (i := 2) c_without.nd rfl (by first | exact .inl rfl | exact .inr rfl))) (fun _ _ _ _ _ => (pts_one (pt_cmpR op_ne (pv 2) (pv 1) (nomark _)))) (fun _ _ _ _ _ => (pv 2))) pa_nil)))), ?_⟩
  exact gd_cb (ga_one (gl_lc1 (gi_T1 (gd_var (i := 0) rfl rx) ha) (by omega) (fun _ => rfl) (fun z hz G' v e' rz => gt_test (gd_op (gd_var rfl rz) (gd_var (i := 1) rfl (ry.mono e')) ro_neS)) (fun z hz _ G' v e' rz => gd_var rfl rz)).gd) rb_tupL H e Q q
end
end Up

/-! text Up4 -/
set_option Elab.async false
set_option linter.all false
set_option maxRecDepth 100000
set_option maxHeartbeats 4000000
/-! the package's defs, the second part -/
namespace Up
open PySem PySem.Spec PyProof.Rows L2 UpS

theorem hu1 {k : Nat} {A : Around} (r : Room k A) : A.units + 1 < cLine := by have := r.un; omega
theorem hu65 {k : Nat} {A : Around} (r : Room k A) : A.units + 65 < cLine := by have := r.un; omega
theorem k_tupn {X : Cx} (K : PySem.W.Frag) (n : Nat) {es : List Expr} {k : Nat} {t : TGs} {pos : Pos} (h : PGs X es t) (hK : X.K = K := by rfl) (hc : X.calm = true := by rfl) (hn : (assignEach es X.env).length = n := by rfl) (hst : (assignEach es X.env).findIdx? (·.1) = none := by rfl) :
    PG X (.Tuple es k pos) (gTup K n t) := hK ▸ pg_tup hc h hn hst
theorem k_star {X : Cx} (K : PySem.W.Frag) {e : Expr} {es : List Expr} {te : TE} {t : TA} {p : Pos} (he : PE X e te) (hr : PA X es t) (hK : X.K = K := by rfl) (hs : starEach (.Starred e p :: es) X.env = (true, eval e X.env) :: starEach es X.env := by rfl) :
    PA X (.Starred e p :: es) (StX.tStar K te t) := hK ▸ StX.pa_star he hr hs
section
variable {K : PySem.W.Frag} {σ : L2.St} {G H : Hp} {te td tk ta tb : TE} {tr : TA} {tz : TS} {En : Ends} {d : D} {ds es : List D} {Q : L2.St → Hp → Prop}
theorem sq_par3 {i j l : Nat} {x y z : D} (h : GA tr σ G [x, y, z]) (e : Ex G H) (k : ∀ a b c G' H', Gr N0 G H G' H' → Rp G' x a → Rp G' y b → Rp G' z c → tz En (((σ.set i (some a)).set j (some b)).set l (some c)) H') :
    tSeq (tAsg (tTup tr) (gTup K 3 (gCons (gName i) (gCons (gName j) (gCons (gName l) gNil))))) tz En σ H := h H e _ fun vs G1 H1 g r => by
  obtain ⟨a, b, c, rfl, ra, rb, rc⟩ := r.i3
  refine ⟨by show 3 ≤ sizeLine; decide, fun p hp => ⟨p, _, rfl, .inl (.inl upd_same), rfl, a, _, rfl, b, _, rfl, c, _, rfl, rfl, ?_⟩⟩
  have g2 := g.data (o := .tup [a, b, c]) hp
  have m := Ex.new (o := HO.tup [a, b, c]) (g.gh.free hp)
  exact k a b c _ _ g2 (ra.mono m) (rb.mono m) (rc.mono m)
theorem sq_par2 {i j : Nat} {x y : D} (h : GA tr σ G [x, y]) (e : Ex G H) (k : ∀ a b G' H', Gr N0 G H G' H' → Rp G' x a → Rp G' y b → tz En ((σ.set i (some a)).set j (some b)) H') :
    tSeq (tAsg (tTup tr) (gTup K 2 (gCons (gName i) (gCons (gName j) gNil)))) tz En σ H := h H e _ fun vs G1 H1 g r => by
  obtain ⟨a, b, rfl, ra, rb⟩ := r.i2
  refine ⟨by show 2 ≤ sizeLine; decide, fun p hp => ⟨p, _, rfl, .inl (.inl upd_same), rfl, a, _, rfl, b, _, rfl, rfl, ?_⟩⟩
  have g2 := g.data (o := .tup [a, b]) hp
  have m := Ex.new (o := HO.tup [a, b]) (g.gh.free hp)
  exact k a b _ _ g2 (ra.mono m) (rb.mono m)
theorem ga_star {d : D} (h : GD te σ G d) (hd : d = .tup es ∨ d = .lst es) (r : GA tr σ G ds) : GA (StX.tStar K te tr) σ G (es ++ ds) := fun H e Q q =>
  h H e _ fun v G1 H1 g1 r1 => by
    rcases hd with rfl | rfl
    · cases r1 with
      | tup ha rs => exact ⟨_, _, rfl, .inl (sqT_of g1.gh ha), (r.mono g1.gg) H1 g1.gh _ fun vs G2 H2 g2 r2 => q _ G2 H2 (g1.trans g2) ((rs.mono g2.gg).append r2)⟩
    · cases r1 with
      | lst ha rs => exact ⟨_, _, rfl, .inr (sqL_of g1.gh ha), (r.mono g1.gg) H1 g1.gh _ fun vs G2 H2 g2 r2 => q _ G2 H2 (g1.trans g2) ((rs.mono g2.gg).append r2)⟩
/-- d[k], k there -/
theorem rpk_val {G : Hp} {k : Key} {d : D} : ∀ {kvs : List (Key × D)} {ws : List (Key × V)}, Rpk G kvs ws → (kvs.find? fun kv => decide (kv.1 = k)).map (·.2) = some d → ∃ v, valV ws k = some v ∧ Rp G d v
  | [], _, _, e => by cases e
  | (k', d') :: kvs, _, h, e => by
    cases h with
    | cons h r =>
      by_cases z : k' = k
      · rw [List.find?_cons_of_pos (by simpa using z)] at e
        cases e
        exact ⟨_, by unfold valV; rw [List.find?_cons_of_pos (by simpa using z)]; rfl, h⟩
      · rw [List.find?_cons_of_neg (by simpa using z)] at e
        obtain ⟨v, h1, h2⟩ := rpk_val r e
        exact ⟨v, by rw [valV_neg z]; exact h1, h2⟩
theorem gd_dget {t x : D} {k : Key} {kvs : List (Key × D)} (h : GD td σ G t) (ht : t = .dk kvs ∨ t = .fk kvs) (hk : GD tk σ G x) (hx : ∀ G v, Rp G x v → v = kV k) (he : (kvs.find? fun kv => decide (kv.1 = k)).map (·.2) = some d) : GD (tDGet td tk) σ G d := fun H e Q q =>
  h H e _ fun v G1 H1 g1 r1 => (hk.mono g1.gg) H1 g1.gh _ fun u G2 H2 g2 r2 => by
    have hu := hx _ _ r2
    subst hu
    rcases ht with rfl | rfl
    · cases r1 with
      | dk ha rs =>
        obtain ⟨v, h1, h2⟩ := rpk_val rs he
        exact ⟨_, v, rfl, .inl ⟨_, k, .inl (g2.gh _ _ (g2.gg _ _ ha)), rfl, h1.symm⟩, q v G2 H2 (g1.trans g2) (h2.mono g2.gg)⟩
    · cases r1 with
      | fk ha rs =>
        obtain ⟨v, h1, h2⟩ := rpk_val rs he
        exact ⟨_, v, rfl, .inl ⟨_, k, g2.gh.le.r _ _ (g2.gg.le.r _ _ ha), rfl, h1.symm⟩, q v G2 H2 (g1.trans g2) (h2.mono g2.gg)⟩
end

/-! ### set_of -/
section
variable {P : Program} {w : World} {K : PySem.W.Frag} {mg : Str → Option Value} {base : Heap}
def setOf (xs : T1) : T1 := sset ltS xs
def fSetOf : List D → D → Prop := fun ds d => ∃ x a, ds = [x] ∧ IsT1 x a ∧ a.length ≤ 1000 ∧ d = tS (setOf a)
theorem ok_set_of (M : Mo mg) (h : Df K mg "set_of" s_set_of p_set_of) : At P w K mg base "set_of" s_set_of p_set_of 1 (spD 1 fSetOf) := by
  obtain ⟨f, fd, F, b, g⟩ := h
  refine ⟨f, fd, F, b, g, F.ok c_set_of (fun vs H Q E h => h.1) (fun cdv A outer s H vs Q E hr h => ?_)⟩
  obtain ⟨_, ds, d, G, e, r, ⟨x, a, rfl, ha, hl, rfl⟩, q⟩ := h
  obtain ⟨v0, rfl, r0⟩ := r.i1
  refine ⟨_, (pss_one
    (ps_ret (pe_callTy (k_tuple K) (by rfl) M.tuple_ PyProof.Rows.boot_tuple (pa_cons (pe_callB (k_sorted K w hr.units) (by rfl) M.sorted_ PyProof.Rows.boot_sorted (pa_cons (pe_callTy (k_set K w hr.units) (by rfl) M.set_ PyProof.Rows.boot_set (pa_cons (pv 0) pa_nil)) pa_nil)) pa_nil)))), ?_⟩
  exact gd_cb (ga_one (gl_sortSetS (gd_var (i := 0) rfl r0) (ha.elim .inr .inl) (by omega)).gd) rb_tupL H e Q q

/-! ### tupled -/
def tupD : Nat → D → D
  | 0, d => d
  | n + 1, .tup ds => .tup (ds.map (tupD n))
  | n + 1, .lst ds => .tup (ds.map (tupD n))
  | _ + 1, d => d
def Sh : Nat → D → Prop
  | 0, _ => False
  | n + 1, .tup ds => ds.length ≤ 1000 ∧ ∀ d ∈ ds, Sh n d
  | n + 1, .lst ds => ds.length ≤ 1000 ∧ ∀ d ∈ ds, Sh n d
  | _ + 1, .str _ => True
  | _ + 1, _ => False
def fTup (n : Nat) : List D → D → Prop := fun ds d => ∃ x, ds = [x] ∧ Sh n x ∧ d = tupD n x
theorem kits (K : PySem.W.Frag) : PySem.W.kitAny K (.type "tuple") [.type "list", .type "tuple"] = some true := kit2 (a := false) (b := true) (by decide +kernel) (by decide +kernel) K
theorem kitsl (K : PySem.W.Frag) : PySem.W.kitAny K (.type "list") [.type "list", .type "tuple"] = some true := kit2 (a := true) (b := false) (by decide +kernel) (by decide +kernel) K
theorem kitss (K : PySem.W.Frag) : PySem.W.kitAny K (.type "str") [.type "list", .type "tuple"] = some false := kit2 (a := false) (b := false) (by decide +kernel) (by decide +kernel) K
theorem ok_tupled (M : Mo mg) (h : Df K mg "tupled" s_tupled p_tupled) : ∀ n, At P w K mg base "tupled" s_tupled p_tupled n (spD 1 (fTup n))
  | 0 => by
    obtain ⟨f, fd, F, b, g⟩ := h
    exact ⟨f, fd, F, b, g, fun vs H Q E ⟨_, _, _, _, _, _, ⟨_, _, hs, _⟩, _⟩ => hs.elim, fun _ _ _ _ _ _ _ _ _ _ _ _ _ ⟨_, _, _, _, _, _, ⟨_, _, hs, _⟩, _⟩ => hs.elim⟩
  | n + 1 => by
    obtain ⟨f_tupled, fd_tupled, F_tupled, b_tupled, g_tupled, G_tupled⟩ := ok_tupled M h n
    refine ⟨f_tupled, fd_tupled, F_tupled, b_tupled, g_tupled, F_tupled.ok c_tupled (fun vs H Q E h => h.1) (fun cdv A outer s H vs Q E hr h => ?_)⟩
    obtain ⟨_, ds, d, G, e, r, ⟨x, rfl, hs, rfl⟩, q⟩ := h
    obtain ⟨v0, rfl, r0⟩ := r.i1
    refine ⟨_, (pss_one
    (ps_ret (pe_ifExp (pt_val (pe_callB (k_isi K) (by rfl) M.isinstance_ PyProof.Rows.boot_isinstance (pa_cons (pv 0) (pa_cons (pe_tup (pa_cons (pe_bltn (v := .ty "list") (by rfl) M.list_ PyProof.Rows.boot_list rfl) (pa_cons (pe_bltn (v := .ty "tuple") (by rfl) M.tuple_ PyProof.Rows.boot_tuple rfl) pa_nil))) pa_nil)))) (pe_callTy (k_tuple K) (by rfl) M.tuple_ PyProof.Rows.boot_tuple (pa_cons (pe_lc (own := [("part", 1)]) rfl c_tupled.nd (k_seq K (pv 0)) (blkOk_by (by kernel_rfl)) (fun _ _ _ _ _ => (pg_name (i := 1) c_tupled.nd rfl (by first | exact .inl rfl | exact .inr rfl))) (fun _ _ _ _ _ => pts_nil) (fun _ _ _ _ _ => (pe_call G_tupled (hr.mono (by omega)) (by rfl) g_tupled F_tupled.kp b_tupled .nil pass0 (pa_cons (pv 1) pa_nil)))) pa_nil)) (pv 0)))), ?_⟩
    have g0 : GD (tVar 0) (start n_tupled [v0]) G x := gd_var (i := 0) rfl r0
    cases x with
    | tup es => exact gd_if (gt_test (gd_isi2 g0 rfl (kits))) (fun _ => gd_cb (ga_one (gl_lc0 (xs := es) (e := id) (f := tupD n) (by rw [List.map_id]; exact gi_seqT g0) (by have := hs.1; omega) (fun _ => rfl) fun y hy G' v e' ry => gd_call (ga_one (gd_var rfl ry)) rfl ⟨y, rfl, hs.2 y hy, rfl⟩).gd) rb_tupL) (fun z => nomatch z) H e Q q
    | lst es => exact gd_if (gt_test (gd_isi2 g0 rfl (kitsl))) (fun _ => gd_cb (ga_one (gl_lc0 (xs := es) (e := id) (f := tupD n) (by rw [List.map_id]; exact gi_seqL g0) (by have := hs.1; omega) (fun _ => rfl) fun y hy G' v e' ry => gd_call (ga_one (gd_var rfl ry)) rfl ⟨y, rfl, hs.2 y hy, rfl⟩).gd) rb_tupL) (fun z => nomatch z) H e Q q
    | str y => exact gd_if (gt_test (gd_isi2 g0 rfl (kitss))) (fun z => nomatch z) (fun _ => g0) H e Q q
    | _ => exact hs.elim
theorem sh_strs (xs : T1) : ∀ d ∈ xs.map D.str, Sh 1 d := fun d hd => by
  obtain ⟨x, _, rfl⟩ := List.mem_map.mp hd
  trivial
theorem tup_strs (xs : T1) : (xs.map D.str).map (tupD 1) = xs.map D.str := by
  rw [List.map_map]; exact List.map_congr_left fun _ _ => rfl
theorem sh_T2 {ns : T2} (hl : ns.length ≤ 1000) (h : ∀ n ∈ ns, n.length ≤ 1000) (l : Bool) : Sh 3 (needD l ns) ∧ tupD 3 (needD l ns) = tT ns := by
  cases l with
  | false =>
    refine ⟨⟨by rw [List.length_map]; exact hl, fun d hd => ?_⟩, ?_⟩
    · obtain ⟨n, hn, rfl⟩ := List.mem_map.mp hd
      exact ⟨by rw [List.length_map]; exact h n hn, sh_strs n⟩
    · show D.tup ((ns.map tS).map (tupD 2)) = _
      rw [List.map_map]
      refine congrArg D.tup (List.map_congr_left fun n _ => ?_)
      show D.tup ((n.map D.str).map (tupD 1)) = _
      rw [tup_strs]; rfl
  | true =>
    refine ⟨⟨by rw [List.length_map]; exact hl, fun d hd => ?_⟩, ?_⟩
    · obtain ⟨n, hn, rfl⟩ := List.mem_map.mp hd
      exact ⟨by rw [List.length_map]; exact h n hn, sh_strs n⟩
    · show D.tup ((ns.map lS).map (tupD 2)) = _
      rw [List.map_map]
      refine congrArg D.tup (List.map_congr_left fun n _ => ?_)
      show D.tup ((n.map D.str).map (tupD 1)) = _
      rw [tup_strs]; rfl

/-! ### check_units, table_of, lets -/
/-- a book of bounded size -/
structure Sm (b : Bk) : Prop where
  nd : (b.map (·.1)).Nodup
  len : b.length ≤ 10
  nl : ∀ p ∈ b, p.2.length ≤ 100
  ll : ∀ p ∈ b, ∀ n ∈ p.2, n.length ≤ 100
def names (b : Bk) : T1 := b.map (·.1)
def fCheck : List D → D → Prop := fun ds d => ∃ x y b a, ds = [x, y] ∧ IsBk x b ∧ IsT1 y a ∧ b.length ≤ 100 ∧ a.length ≤ 1000 ∧ (∀ u ∈ a, u ∈ names b) ∧ d = .non
theorem ok_check_units (M : Mo mg) (h : Df K mg "check_units" s_check_units p_check_units) (hU : At P w K mg base "units" s_units p_units 1 (spD 1 fUnits)) : At P w K mg base "check_units" s_check_units p_check_units 2 (spD 2 fCheck) := by
  obtain ⟨f_units, fd_units, F_units, b_units, g_units, G_units⟩ := hU
  obtain ⟨f, fd, F, b, g⟩ := h
  refine ⟨f, fd, F, b, g, F.ok c_check_units (fun vs H Q E h => h.1) (fun cdv A outer s H vs Q E hr h => ?_)⟩
  obtain ⟨_, ds, d, G, e, r, ⟨x, y, bk, a, rfl, hb, ha, hl, hla, hin, rfl⟩, q⟩ := h
  obtain ⟨v0, v1, rfl, rx, ry⟩ := r.i2
  refine ⟨_, (pss_cons
    (ps_set (i := 2) c_check_units.nd rfl (by first | exact .inl rfl | exact .inr rfl) (pe_call G_units (hr.mono (by omega)) (by rfl) g_units F_units.kp b_units .nil pass0 (pa_cons (pv 0) pa_nil)))
    (pss_one
    (ps_for PassesOwn.never rfl (k_seq K (pv 1)) (pg_name (i := 3) c_check_units.nd rfl (by first | exact .inl rfl | exact .inr rfl)) (pss_one
        (ps_if (pt_cmpR (k_notIn K) (pv 3) (pv 2) (by rfl)) (pss_one
            ps_never) pss_nil))))), ?_⟩
  refine sq_asg (gd_call (ga_one (gd_var (i := 0) rfl rx)) rfl ⟨x, bk, rfl, hb, by omega, rfl⟩) e fun v2 G1 H1 g1 r2 => ?_
  refine sd_for (gi_T1 (gd_var (i := 1) rfl (ry.mono g1.gg)) ha) g1.gh fun G2 H2 g2 => ⟨fun i σ G' H' => (∃ u, σ = [some v0, some v1, some v2, u]) ∧ Gr N0 G2 H2 G' H', ⟨⟨none, rfl⟩, .refl g2.gh⟩, fun i σ' G' H' ⟨_, g⟩ => ⟨g.gg, g.gh⟩, ?_, ?_⟩
  · rintro i d σ' G' H' v G3 H3 hd ⟨⟨u, rfl⟩, g3⟩ g4 r4
    obtain ⟨z, hz, rfl⟩ := List.mem_map.mp (List.mem_of_getElem? hd)
    refine s_if (b := false) (gt_is (gt_B (gd_inT1 (neg := true) (K := K) (gd_var (i := 3) rfl r4) (gd_var (i := 2) rfl (r2.mono (g2.gg.trans (g3.gg.trans g4.gg)))) (.inl rfl))) ?_) g4.gh (fun z => nomatch z) fun _ G5 H5 g5 => ?_
    · rw [show decide (z ∈ bk.map (·.1)) = true from decide_eq_true (hin z hz)]; rfl
    · exact ⟨G5, ⟨_, rfl⟩, g3.trans (g4.trans g5)⟩
  · rintro σ' G' H' ⟨_, g3⟩
    exact q .non G' H' (g1.trans (g2.trans g3)) .non
theorem tb_key : ∀ (b : Bk) (u : Str), ((tbK b).find? fun kv => decide (kv.1 = Sum.inr u)).map (·.2) = ((b.find? fun p => decide (p.1 = u)).map (·.2)).map tT
  | [], _ => rfl
  | p :: b, u => by
    by_cases z : p.1 = u
    · have e1 : (tbK (p :: b)).find? (fun kv => decide (kv.1 = Sum.inr u)) = some (Sum.inr p.1, tT p.2) := List.find?_cons_of_pos (by simpa using z)
      have e2 : (p :: b).find? (fun p => decide (p.1 = u)) = some p := List.find?_cons_of_pos (by simpa using z)
      rw [e1, e2]; rfl
    · have e1 : (tbK (p :: b)).find? (fun kv => decide (kv.1 = Sum.inr u)) = (tbK b).find? (fun kv => decide (kv.1 = Sum.inr u)) := List.find?_cons_of_neg (by simpa using z)
      have e2 : (p :: b).find? (fun p => decide (p.1 = u)) = b.find? (fun p => decide (p.1 = u)) := List.find?_cons_of_neg (by simpa using z)
      rw [e1, e2]; exact tb_key b u
def needsOf (b : Bk) (u : Str) : T2 := ((b.find? fun p => decide (p.1 = u)).map (·.2)).getD []
theorem needs_find {b : Bk} {u : Str} (h : u ∈ names b) : ∃ p, b.find? (fun p => decide (p.1 = u)) = some p ∧ p ∈ b ∧ p.1 = u := by
  obtain ⟨p, hp, e⟩ := List.mem_map.mp h
  cases q : b.find? (fun p => decide (p.1 = u)) with
  | none =>
    have := List.find?_eq_none.mp q p hp
    simp [e] at this
  | some p' =>
    have h1 := List.find?_some q
    exact ⟨p', rfl, List.mem_of_find?_eq_some q, by simpa using h1⟩
theorem tb_at {b : Bk} {u : Str} (h : u ∈ names b) : ((tbK b).find? fun kv => decide (kv.1 = Sum.inr u)).map (·.2) = some (tT (needsOf b u)) := by
  obtain ⟨p, e, _⟩ := needs_find h
  rw [tb_key, e]
  unfold needsOf
  rw [e]; rfl
theorem Sm.needs {b : Bk} (S : Sm b) {u : Str} (h : u ∈ names b) : (needsOf b u).length ≤ 100 ∧ ∀ n ∈ needsOf b u, n.length ≤ 100 := by
  obtain ⟨p, e, hp, _⟩ := needs_find h
  unfold needsOf
  rw [e]
  exact ⟨S.nl p hp, S.ll p hp⟩
def fTable : List D → D → Prop := fun ds d => ∃ x b, ds = [x] ∧ IsBk x b ∧ Sm b ∧ d = .dk (tbK b)
theorem ok_table_of (M : Mo mg) (h : Df K mg "table_of" s_table_of p_table_of) (hT : At P w K mg base "tupled" s_tupled p_tupled 3 (spD 1 (fTup 3))) : At P w K mg base "table_of" s_table_of p_table_of 4 (spD 1 fTable) := by
  obtain ⟨f_tupled, fd_tupled, F_tupled, b_tupled, g_tupled, G_tupled⟩ := hT
  obtain ⟨f, fd, F, b, g⟩ := h
  refine ⟨f, fd, F, b, g, F.ok c_table_of (fun vs H Q E h => h.1) (fun cdv A outer s H vs Q E hr h => ?_)⟩
  obtain ⟨_, ds, d, G, e, r, ⟨x, bk, rfl, hb, S, rfl⟩, q⟩ := h
  obtain ⟨v0, rfl, rx⟩ := r.i1
  refine ⟨_, (pss_one
    (ps_ret (pe_dc (own := [("unit", 1), ("needs", 2)]) rfl c_table_of.nd (k_seq K (pv 0)) (blkOk_by (by kernel_rfl)) (fun _ _ _ _ _ => (k_pair K (pgs_cons (pg_name (i := 1) c_table_of.nd rfl (by first | exact .inl rfl | exact .inr rfl)) (pgs_cons (pg_name (i := 2) c_table_of.nd rfl (by first | exact .inl rfl | exact .inr rfl)) pgs_nil)))) (fun _ _ _ _ _ => pts_nil) (fun _ _ _ _ _ => (pv 1)) (fun _ _ _ _ _ => (pe_call G_tupled (hr.mono (by omega)) (by rfl) g_tupled F_tupled.kp b_tupled .nil pass0 (pa_cons (pv 2) pa_nil)))))), ?_⟩
  obtain ⟨l, gi⟩ := gi_Bk (K := K) (σ := start n_table_of [v0]) (gd_var (i := 0) rfl rx) hb
  have len := S.len
  refine gd_dc (ky := fun p : Str × T2 => Sum.inr p.1) (f := fun p => tT p.2) gi (by omega) (List.pairwise_map.mpr (List.Pairwise.imp (fun {p q} h z => h (Sum.inr.inj z)) (List.pairwise_map.mp S.nd))) (fun p hp G' H' v e1 e2 rp Q q => tg_Bk rp e2 fun a c ra rc => q _ rfl (fun H2 e3 Q2 q2 => ⟨a, rfl, by cases ra; exact q2 _ H2 (.refl e3)⟩) ?_) H e Q q
  have hs := sh_T2 (ns := p.2) (by have := S.nl p hp; omega) (fun n hn => by have := S.ll p hp n hn; omega) l
  exact gd_call (ga_one (gd_var (i := 2) rfl rc)) rfl ⟨_, rfl, hs.1, hs.2.symm⟩
def lets (b : Bk) (up : T1) (u : Str) : Bool := !decide (u ∈ up) && (needsOf b u).any fun n => n.all fun o => decide (o ∈ up)
def fLets : List D → D → Prop := fun ds d => ∃ t x u b up, ds = [t, x, .str u] ∧ IsTb t b ∧ IsT1 x up ∧ Sm b ∧ u ∈ names b ∧ d = .bl (lets b up u)
theorem ok_lets (M : Mo mg) (h : Df K mg "lets" s_lets p_lets) : At P w K mg base "lets" s_lets p_lets 1 (spD 3 fLets) := by
  obtain ⟨f, fd, F, b, g⟩ := h
  refine ⟨f, fd, F, b, g, F.ok c_lets (fun vs H Q E h => h.1) (fun cdv A outer s H vs Q E hr h => ?_)⟩
  obtain ⟨_, ds, d, G, e, r, ⟨t, x, u, bk, up, rfl, ht, hx, S, hu, rfl⟩, q⟩ := h
  obtain ⟨v0, v1, v2, rfl, r0, r1, r2⟩ := r.i3
  refine ⟨_, (pss_one
    (ps_ret (pe_and (pe_cmpR (k_notIn K) (pv 2) (pv 1) (by rfl)) (pe_one (pe_callB (k_any K) (by rfl) M.any_ PyProof.Rows.boot_any (pa_cons (pe_lc (own := [("need", 3)]) rfl c_lets.nd (k_seq K (pe_dget (hu1 hr) (pv 0) (pv 2) (fun _ _ => rfl))) (blkOk_by (by kernel_rfl)) (fun _ _ _ _ _ => (pg_name (i := 3) c_lets.nd rfl (by first | exact .inl rfl | exact .inr rfl))) (fun _ _ _ _ _ => pts_nil) (fun _ _ _ _ _ => (pe_callB (k_all K) (by rfl) M.all_ PyProof.Rows.boot_all (pa_cons (pe_lc (own := [("one", 4)]) rfl c_lets.nd (k_seq K (pv 3)) (blkOk_by (by kernel_rfl)) (fun _ _ _ _ _ => (pg_name (i := 4) c_lets.nd rfl (by first | exact .inl rfl | exact .inr rfl))) (fun _ _ _ _ _ => pts_nil) (fun _ _ _ _ _ => (pe_cmpR (k_in K) (pv 4) (pv 1) (by rfl)))) pa_nil)))) pa_nil)))))), ?_⟩
  have hs := S.needs hu
  refine gd_and (gd_is (gd_inT1 (neg := true) (gd_var (i := 2) rfl r2) (gd_var (i := 1) rfl r1) hx) rfl) (fun _ => ?_) H e Q q
  refine gd_anym (xs := needsOf bk u) (f := fun n => n.all fun o => decide (o ∈ up)) (ga_one (GL.gd ?_))
  refine gl_lc0 (xs := needsOf bk u) (e := tS) (f := fun n => .bl (n.all fun o => decide (o ∈ up))) (gi_seqT (gd_dget (k := Sum.inr u) (gd_var (i := 0) rfl r0) (ht.elim .inl .inr) (gd_var (i := 2) rfl r2) (fun G v h => by cases h; rfl) (tb_at hu))) (by omega) (fun _ => rfl) fun n hn G' v e' rn => ?_
  refine gd_allm (ga_one (GL.gd ?_))
  have hnl := hs.2 n hn
  refine gl_lc0 (xs := n) (e := D.str) (f := fun o => .bl (decide (o ∈ up))) (gi_T1 (gd_var (i := 3) rfl rn) (.inl rfl)) (by omega) (fun _ => rfl) fun o ho G2 v2 e2 ro => ?_
  exact gd_inT1 (neg := false) (gd_var (i := 4) rfl ro) (gd_var (i := 1) rfl (r1.mono (e'.trans e2))) hx
end
end Up

/-! text UpM0 -/
set_option Elab.async false
set_option linter.all false
set_option maxRecDepth 100000
set_option maxHeartbeats 2000000
/-! counting: lists in order among a few names -/
namespace Up
open PySem UpS
def subs {α : Type} : List α → List (List α)
  | [] => [[]]
  | x :: l => subs l ++ (subs l).map (x :: ·)
theorem len_subs {α : Type} : ∀ l : List α, (subs l).length = 2 ^ l.length
  | [] => rfl
  | x :: l => by
    show (subs l ++ (subs l).map (x :: ·)).length = _
    rw [List.length_append, List.length_map, len_subs l, List.length_cons, Nat.pow_succ]
    omega
theorem mem_subs {α : Type} : ∀ {l s : List α}, l.Sublist s → l ∈ subs s
  | _, _, .slnil => List.mem_singleton.mpr rfl
  | _, _, .cons a h => List.mem_append_left _ (mem_subs h)
  | _, _, .cons₂ a h => List.mem_append_right _ (List.mem_map.mpr ⟨_, mem_subs h, rfl⟩)
theorem sst_sublist {α : Type} {lt : α → α → Bool} (O : Ordr lt) : ∀ {s t : List α}, Sst lt s → Sst lt t → (∀ x ∈ t, x ∈ s) → t.Sublist s
  | s, [], _, _, _ => List.nil_sublist s
  | [], x :: t, _, _, h => by cases h x List.mem_cons_self
  | y :: s, x :: t, hs, ht, h => by
    obtain ⟨s1, s2⟩ := List.pairwise_cons.mp hs
    obtain ⟨t1, t2⟩ := List.pairwise_cons.mp ht
    by_cases e : x = y
    · subst e
      refine .cons₂ x (sst_sublist O s2 t2 fun z hz => ?_)
      rcases List.mem_cons.mp (h z (List.mem_cons_of_mem _ hz)) with e | e
      · have := t1 z hz
        rw [e, O.irr] at this; cases this
      · exact e
    · have hx : x ∈ s := (List.mem_cons.mp (h x List.mem_cons_self)).resolve_left e
      refine .cons y (sst_sublist O s2 ht fun z hz => ?_)
      rcases List.mem_cons.mp (h z hz) with e2 | e2
      · exfalso
        have h1 := s1 x hx
        rcases List.mem_cons.mp hz with e3 | e3
        · exact e (e3.symm.trans e2)
        · have h2 := t1 z e3
          rw [e2] at h2
          rw [O.asy h1] at h2; cases h2
      · exact e2
theorem lenLe {α : Type} [DecidableEq α] : ∀ {l m : List α}, l.Nodup → (∀ x ∈ l, x ∈ m) → l.length ≤ m.length
  | [], m, _, _ => Nat.zero_le _
  | x :: l, m, n, h => by
    obtain ⟨n1, n2⟩ := List.nodup_cons.mp n
    have hx := h x List.mem_cons_self
    have h2 : ∀ y ∈ l, y ∈ m.erase x := fun y hy => by
      have hne : y ≠ x := fun e => n1 (e ▸ hy)
      exact (List.mem_erase_of_ne hne).mpr (h y (List.mem_cons_of_mem _ hy))
    have := lenLe n2 h2
    rw [List.length_erase_of_mem hx] at this
    have : 0 < m.length := List.length_pos_of_mem hx
    simp only [List.length_cons]
    omega
theorem few_sets {ns : List Str} {l : List (List Str)} (n : l.Nodup) (h : ∀ t ∈ l, Sst ltS t ∧ ∀ x ∈ t, x ∈ ns) : l.length ≤ 2 ^ ns.length := by
  have key : ∀ t ∈ l, t ∈ subs (sset ltS ns) := fun t ht => mem_subs (sst_sublist ordS (sset_sst ordS ns) (h t ht).1 fun x hx => mem_sset.mpr ((h t ht).2 x hx))
  have h1 := lenLe n key
  rw [len_subs] at h1
  have h2 : (sset ltS ns).length ≤ ns.length := lenLe ((sset_sst ordS ns).nodup ordS) fun x hx => mem_sset.mp hx
  exact Nat.le_trans h1 (Nat.pow_le_pow_right (by decide) h2)
end Up

/-! text Up5 -/
set_option Elab.async false
set_option linter.all false
set_option maxRecDepth 100000
set_option maxHeartbeats 4000000
/-! row_within, greatest_within, whole -/
namespace Up
open PySem PySem.Spec PyProof.Rows L2 UpS
section
variable {K : PySem.W.Frag} {σ : L2.St} {G H : Hp} {te td tk ta tb : TE} {tr : TA} {tz : TS} {En : Ends} {d : D} {ds es : List D} {Q : L2.St → Hp → Prop}
theorem rps_at {vs : List V} {i : Int} (r : Rps G ds vs) (h : atI ds i = some d) : ∃ v, atI vs i = some v ∧ Rp G d v := by
  unfold atI at h ⊢
  rw [r.len] at h
  cases q : ixN vs.length i with
  | none => rw [q] at h; cases h
  | some j =>
    rw [q] at h
    exact r.get' h
theorem ro_ixL {i : Int} (h : atI ds i = some d) : RO (rIxL K) (.lst ds) (.int i) d := ro_val fun G v w hv hw H e Q q => by
  cases hw
  cases hv with
  | lst ha rs =>
    obtain ⟨v, h1, h2⟩ := rps_at rs h
    exact ⟨_, _, i, v, rfl, rfl, sqL_of e ha, h1, q v h2⟩
theorem ro_ixT {i : Int} (h : atI ds i = some d) : RO (rIxT K) (.tup ds) (.int i) d := ro_val fun G v w hv hw H e Q q => by
  cases hw
  cases hv with
  | tup ha rs =>
    obtain ⟨v, h1, h2⟩ := rps_at rs h
    exact ⟨_, _, i, v, rfl, rfl, sqT_of e ha, h1, q v h2⟩
theorem atI0 {α : Type} (x : α) (l : List α) : atI (x :: l) 0 = some x := atI_nat (j := 0) rfl
end
/-! counting -/
theorem len_le_of_sub {α : Type} [DecidableEq α] : ∀ {l m : List α}, l.Nodup → (∀ x ∈ l, x ∈ m) → l.length ≤ m.length
  | [], m, _, _ => Nat.zero_le _
  | x :: l, m, n, h => by
    obtain ⟨n1, n2⟩ := List.nodup_cons.mp n
    have hx := h x List.mem_cons_self
    have h2 : ∀ y ∈ l, y ∈ m.erase x := fun y hy => by
      have hne : y ≠ x := fun e => n1 (e ▸ hy)
      exact (List.mem_erase_of_ne hne).mpr (h y (List.mem_cons_of_mem _ hy))
    have := len_le_of_sub n2 h2
    rw [List.length_erase_of_mem hx] at this
    have : 0 < m.length := List.length_pos_of_mem hx
    simp only [List.length_cons]
    omega
theorem nodup_snoc {α : Type} {l : List α} {x : α} (n : l.Nodup) (h : x ∉ l) : (l ++ [x]).Nodup := by
  rw [List.nodup_append]
  refine ⟨n, List.nodup_cons.mpr ⟨List.not_mem_nil, List.nodup_nil⟩, fun a ha b hb e => ?_⟩
  rw [List.mem_singleton] at hb
  exact h (hb ▸ e ▸ ha)

/-! ### row_within -/
def rowGo (b : Bk) (some : T1) : Nat → T1 → T1
  | 0, f => f
  | n + 1, f => match some.filter (lets b f) with
    | [] => f
    | u :: _ => rowGo b some n (f ++ [u])
def rowWithin (b : Bk) (some : T1) : T1 := rowGo b some (some.length + 1) []
theorem lets_out {b : Bk} {f : T1} {u : Str} (h : lets b f u = true) : u ∉ f := by
  unfold lets at h
  rw [Bool.and_eq_true, Bool.not_eq_true', decide_eq_false_iff_not] at h
  exact h.1
theorem filter_head {α : Type} {p : α → Bool} {l r : List α} {u : α} (h : l.filter p = u :: r) : u ∈ l ∧ p u = true := by
  have : u ∈ l.filter p := by rw [h]; exact List.mem_cons_self
  exact List.mem_filter.mp this
section
variable {P : Program} {w : World} {K : PySem.W.Frag} {mg : Str → Option Value} {base : Heap}
def fRow : List D → D → Prop := fun ds d => ∃ x y b a, ds = [x, y] ∧ IsBk x b ∧ IsT1 y a ∧ Sm b ∧ a.length ≤ 100 ∧ (∀ u ∈ a, u ∈ names b) ∧ d = tS (rowWithin b a)
theorem ok_row_within (M : Mo mg) (h : Df K mg "row_within" s_row_within p_row_within) (hT : At P w K mg base "table_of" s_table_of p_table_of 4 (spD 1 fTable)) (hL : At P w K mg base "lets" s_lets p_lets 1 (spD 3 fLets)) :
    At P w K mg base "row_within" s_row_within p_row_within 5 (spD 2 fRow) := by
  obtain ⟨f_table_of, fd_table_of, F_table_of, b_table_of, g_table_of, G_table_of⟩ := hT
  obtain ⟨f_lets, fd_lets, F_lets, b_lets, g_lets, G_lets⟩ := hL
  obtain ⟨f, fd, F, b, g⟩ := h
  refine ⟨f, fd, F, b, g, F.ok c_row_within (fun vs H Q E h => h.1) (fun cdv A outer s H vs Q E hr h => ?_)⟩
  obtain ⟨_, ds, d, G, e, r, ⟨x, y, bk, a, rfl, hb, ha, S, hl, hin, rfl⟩, q⟩ := h
  obtain ⟨v0, v1, rfl, rx, ry⟩ := r.i2
  refine ⟨_, (pss_cons
    (ps_asg (pe_tup (pa_cons (pe_call G_table_of (hr.mono (by omega)) (by rfl) g_table_of F_table_of.kp b_table_of .nil pass0 (pa_cons (pv 0) pa_nil)) (pa_cons (pe_tup pa_nil) (pa_cons pe_bl pa_nil)))) (k_tupn K 3 (pgs_cons (pg_name (i := 2) c_row_within.nd rfl (by first | exact .inl rfl | exact .inr rfl)) (pgs_cons (pg_name (i := 3) c_row_within.nd rfl (by first | exact .inl rfl | exact .inr rfl)) (pgs_cons (pg_name (i := 4) c_row_within.nd rfl (by first | exact .inl rfl | exact .inr rfl)) pgs_nil)))))
    (pss_cons
    (ps_while PassesOwn.never (pt_val (pv 4)) (pss_cons
        (ps_setLc (i := 5) (own := [("unit", 6)]) rfl c_row_within.nd rfl rfl (sw_true rfl rfl rfl (by decide +kernel)) (k_seq K (pv 1)) (blkOk_by (by kernel_rfl)) (fun _ _ _ _ _ => (pg_name (i := 6) c_row_within.nd rfl (by first | exact .inl rfl | exact .inr rfl))) (fun _ _ _ _ _ => (pts_one (pt_val (pe_call G_lets (hr.mono (by omega)) (by rfl) g_lets F_lets.kp b_lets .nil pass0 (pa_cons (pv 2) (pa_cons (pv 3) (pa_cons (pv 6) pa_nil))))))) (fun _ _ _ _ _ => (pv 6)))
        (pss_cons
        (ps_set (i := 4) c_row_within.nd rfl (by first | exact .inl rfl | exact .inr rfl) (pe_cmpR op_gt (pe_callB (k_len K) (by rfl) M.len_ PySem.boot_len (pa_cons (pv 5) pa_nil)) pe_int (nomark _)))
        (pss_one
        (ps_set (i := 3) c_row_within.nd rfl (by first | exact .inl rfl | exact .inr rfl) (pe_ifExp (pt_val (pv 4)) (pe_tup (k_star K (pv 3) (pa_cons (pe_ix (k_ixL K) (pv 5) pe_int (fun _ _ => rfl)) pa_nil))) (pv 3)))))))
    (pss_one
    (ps_ret (pv 3))))), ?_⟩
  refine sq_par3 (ga_cons (gd_call (ga_one (gd_var (i := 0) rfl rx)) rfl ⟨x, bk, rfl, hb, S, rfl⟩) (ga_cons (gd_tup ga_nil (Nat.zero_le _)) (ga_one (gd_c (.bl true))))) e fun v2 v3 v4 G1 H1 g1 r2 r3 r4 => ?_
  refine s_while (fun m σ G' H' => ∃ (f : T1) (gr : Bool) (u3 : V) (l1 l2 : Option V), σ = [some v0, some v1, some v2, some u3, some (.bl gr), l1, l2] ∧ Gr N0 G1 H1 G' H' ∧ Rp G' (tS f) u3 ∧ f.Nodup ∧ (∀ z ∈ f, z ∈ a) ∧
      (gr = true → rowGo bk a (a.length + 1 - f.length) f = rowWithin bk a) ∧ (gr = false → f = rowWithin bk a) ∧ m = (a.length + 1 - f.length) + (if gr then 1 else 0))
    (n := a.length + 2) ⟨[], true, v3, none, none, ?_, .refl g1.gh, r3, List.nodup_nil, (fun z hz => nomatch hz), fun _ => rfl, (fun z => nomatch z), rfl⟩ ?_
  · cases r4; rfl
  · rintro m σ' G' H' ⟨f, gr, u3, l1, l2, rfl, gg, rf, nf, sf, ht, hf, rfl⟩
    have hfl := len_le_of_sub nf sf
    refine ⟨gr, gg.gh, gt_test (gd_var (i := 4) rfl (.bl gr)), fun hg G2 H2 g2 => ?_, fun hg G2 H2 g2 => ?_⟩
    · subst hg
      refine sq_asg (GL.gd (gl_lc1 (xs := a) (e := D.str) (p := lets bk f) (f := fun u => D.str u) (gi_T1 (gd_var (i := 1) rfl (ry.mono (g1.gg.trans (gg.gg.trans g2.gg)))) ha) (by omega) (fun _ => rfl)
        (fun u hu G' v e' rv => gt_test (gd_call (ga_cons (gd_var (i := 2) rfl (r2.mono ((gg.gg.trans g2.gg).trans e'))) (ga_cons (gd_var (i := 3) rfl (rf.mono (g2.gg.trans e'))) (ga_one (gd_var (i := 6) rfl rv)))) rfl ⟨_, _, u, bk, f, rfl, .inl rfl, .inl rfl, S, hin u hu, rfl⟩))
        (fun u hu _ G' v e' rv => gd_var rfl rv))) g2.gh fun v5 G3 H3 g3 r5 => ?_
      refine sq_asg (gd_op (gd_cb (ga_one (gd_var (i := 5) rfl r5)) rb_lenL) (gd_c (.int 0)) ro_cmp) g3.gh fun v4' G4 H4 g4 r4' => ?_
      have gx := g2.trans (g3.trans g4)
      rw [List.length_map] at r4'
      cases hc : a.filter (lets bk f) with
      | nil =>
        rw [hc] at r4' r5
        cases r4'
        refine s_asg (d := tS f) (gd_if (b := false) (gt_test (gd_var (i := 4) rfl (.bl _))) (fun z => nomatch z) fun _ => gd_var (i := 3) rfl (rf.mono gx.gg)) g4.gh fun u5 G5 H5 g5 r6 => ?_
        refine ⟨_, G5, ?_, f, false, u5, _, _, rfl, gg.trans (gx.trans g5), r6, nf, sf, (fun z => nomatch z), (fun _ => ?_), rfl⟩
        · simp
        · rw [← ht rfl]
          have : a.length + 1 - f.length = (a.length - f.length) + 1 := by omega
          rw [this]
          unfold rowGo
          rw [hc]
      | cons u rest =>
        rw [hc] at r4' r5
        have hu := filter_head hc
        have hcmp : decide ((0 : Int) < ((u :: rest).length : Int)) = true := by
          rw [decide_eq_true_eq, List.length_cons]; omega
        rw [hcmp] at r4'
        cases r4'
        have hnu := lets_out hu.2
        have nf' := nodup_snoc nf hnu
        have sf' : ∀ z ∈ f ++ [u], z ∈ a := fun z hz => by
          rcases List.mem_append.mp hz with y | y
          · exact sf z y
          · rw [List.mem_singleton.mp y]; exact hu.1
        have hfl' := len_le_of_sub nf' sf'
        rw [List.length_append, List.length_singleton] at hfl'
        refine s_asg (d := tS (f ++ [u])) (gd_if (b := true) (gt_test (gd_var (i := 4) rfl (.bl _))) (fun _ => gd_is (gd_tup (ga_star (gd_var (i := 3) rfl (rf.mono gx.gg)) (.inl rfl) (ga_one (gd_op (gd_var (i := 5) rfl (r5.mono g4.gg)) (gd_c (.int 0)) (ro_ixL (d := .str u) (atI0 _ _))))) (by simp; omega)) (by unfold tS; rw [List.map_append]; rfl)) fun z => nomatch z) g4.gh fun u5 G5 H5 g5 r6 => ?_
        refine ⟨_, G5, ?_, f ++ [u], true, u5, _, _, rfl, gg.trans (gx.trans g5), r6, nf', sf', (fun _ => ?_), (fun z => nomatch z), rfl⟩
        · simp; omega
        · rw [← ht rfl]
          have : a.length + 1 - f.length = (a.length + 1 - (f ++ [u]).length) + 1 := by rw [List.length_append, List.length_singleton]; omega
          rw [this]
          conv => rhs; unfold rowGo
          rw [hc]
    · subst hg
      refine gd_var (i := 3) rfl (rf.mono g2.gg) H2 g2.gh _ fun v G3 H3 g3 r3 => ?_
      rw [hf rfl] at r3
      exact q v G3 H3 (g1.trans (gg.trans (g2.trans g3))) r3
theorem rowGo_in {b : Bk} {a : T1} : ∀ (n : Nat) (f : T1), f.Nodup → (∀ z ∈ f, z ∈ a) → (rowGo b a n f).Nodup ∧ ∀ z ∈ rowGo b a n f, z ∈ a
  | 0, f, h1, h2 => ⟨h1, h2⟩
  | n + 1, f, h1, h2 => by
    unfold rowGo
    cases hc : a.filter (lets b f) with
    | nil => exact ⟨h1, h2⟩
    | cons u rest =>
      have hu := filter_head hc
      refine rowGo_in n (f ++ [u]) (nodup_snoc h1 (lets_out hu.2)) fun z hz => ?_
      rcases List.mem_append.mp hz with y | y
      · exact h2 z y
      · rw [List.mem_singleton.mp y]; exact hu.1
theorem row_nodup (b : Bk) (a : T1) : (rowWithin b a).Nodup := (rowGo_in _ [] List.nodup_nil (fun z hz => nomatch hz)).1
theorem row_sub (b : Bk) (a : T1) : ∀ z ∈ rowWithin b a, z ∈ a := (rowGo_in _ [] List.nodup_nil (fun z hz => nomatch hz)).2
theorem row_len (b : Bk) (a : T1) : (rowWithin b a).length ≤ a.length := len_le_of_sub (row_nodup b a) (row_sub b a)
def greatest (b : Bk) (a : T1) : T1 := setOf (rowWithin b a)
def whole (b : Bk) : T1 := greatest b (names b)
def fGreatest : List D → D → Prop := fun ds d => ∃ x y b a, ds = [x, y] ∧ IsBk x b ∧ IsT1 y a ∧ Sm b ∧ a.length ≤ 100 ∧ (∀ u ∈ a, u ∈ names b) ∧ d = tS (greatest b a)
theorem ok_greatest_within (M : Mo mg) (h : Df K mg "greatest_within" s_greatest_within p_greatest_within) (hC : At P w K mg base "check_units" s_check_units p_check_units 2 (spD 2 fCheck))
    (hS : At P w K mg base "set_of" s_set_of p_set_of 1 (spD 1 fSetOf)) (hR : At P w K mg base "row_within" s_row_within p_row_within 5 (spD 2 fRow)) :
    At P w K mg base "greatest_within" s_greatest_within p_greatest_within 6 (spD 2 fGreatest) := by
  obtain ⟨f_check_units, fd_check_units, F_check_units, b_check_units, g_check_units, G_check_units⟩ := hC
  obtain ⟨f_set_of, fd_set_of, F_set_of, b_set_of, g_set_of, G_set_of⟩ := hS
  obtain ⟨f_row_within, fd_row_within, F_row_within, b_row_within, g_row_within, G_row_within⟩ := hR
  obtain ⟨f, fd, F, b, g⟩ := h
  refine ⟨f, fd, F, b, g, F.ok c_greatest_within (fun vs H Q E h => h.1) (fun cdv A outer s H vs Q E hr h => ?_)⟩
  obtain ⟨_, ds, d, G, e, r, ⟨x, y, bk, a, rfl, hb, ha, S, hl, hin, rfl⟩, q⟩ := h
  obtain ⟨v0, v1, rfl, rx, ry⟩ := r.i2
  refine ⟨_, (pss_cons
    (ps_expr (pe_call G_check_units (hr.mono (by omega)) (by rfl) g_check_units F_check_units.kp b_check_units .nil pass0 (pa_cons (pv 0) (pa_cons (pv 1) pa_nil))))
    (pss_one
    (ps_ret (pe_call G_set_of (hr.mono (by omega)) (by rfl) g_set_of F_set_of.kp b_set_of .nil pass0 (pa_cons (pe_call G_row_within (hr.mono (by omega)) (by rfl) g_row_within F_row_within.kp b_row_within .nil pass0 (pa_cons (pv 0) (pa_cons (pv 1) pa_nil))) pa_nil))))), ?_⟩
  have hbl := S.len
  refine gd_call (ga_two (gd_var (i := 0) rfl rx) (gd_var (i := 1) rfl ry)) rfl ⟨x, y, bk, a, rfl, hb, ha, by omega, by omega, hin, rfl⟩ H e _ fun v G1 H1 g1 r1 => ?_
  have hrl := row_len bk a
  exact gd_call (ga_one (gd_call (ga_two (gd_var (i := 0) rfl (rx.mono g1.gg)) (gd_var (i := 1) rfl (ry.mono g1.gg))) rfl ⟨x, y, bk, a, rfl, hb, ha, S, hl, hin, rfl⟩)) rfl ⟨_, _, rfl, .inl rfl, by omega, rfl⟩ H1 g1.gh Q fun v G2 H2 g2 r2 => q v G2 H2 (g1.trans g2) r2
def fWhole : List D → D → Prop := fun ds d => ∃ x b, ds = [x] ∧ IsBk x b ∧ Sm b ∧ d = tS (whole b)
theorem ok_whole (M : Mo mg) (h : Df K mg "whole" s_whole p_whole) (hG : At P w K mg base "greatest_within" s_greatest_within p_greatest_within 6 (spD 2 fGreatest)) (hU : At P w K mg base "units" s_units p_units 1 (spD 1 fUnits)) :
    At P w K mg base "whole" s_whole p_whole 7 (spD 1 fWhole) := by
  obtain ⟨f_greatest_within, fd_greatest_within, F_greatest_within, b_greatest_within, g_greatest_within, G_greatest_within⟩ := hG
  obtain ⟨f_units, fd_units, F_units, b_units, g_units, G_units⟩ := hU
  obtain ⟨f, fd, F, b, g⟩ := h
  refine ⟨f, fd, F, b, g, F.ok c_whole (fun vs H Q E h => h.1) (fun cdv A outer s H vs Q E hr h => ?_)⟩
  obtain ⟨_, ds, d, G, e, r, ⟨x, bk, rfl, hb, S, rfl⟩, q⟩ := h
  obtain ⟨v0, rfl, rx⟩ := r.i1
  refine ⟨_, (pss_one
    (ps_ret (pe_call G_greatest_within (hr.mono (by omega)) (by rfl) g_greatest_within F_greatest_within.kp b_greatest_within .nil pass0 (pa_cons (pv 0) (pa_cons (pe_call G_units (hr.mono (by omega)) (by rfl) g_units F_units.kp b_units .nil pass0 (pa_cons (pv 0) pa_nil)) pa_nil))))), ?_⟩
  have hbl := S.len
  exact gd_call (ga_two (gd_var (i := 0) rfl rx) (gd_call (ga_one (gd_var (i := 0) rfl rx)) rfl ⟨x, bk, rfl, hb, by omega, rfl⟩)) rfl ⟨x, _, bk, names bk, rfl, hb, .inl rfl, S, by unfold names; rw [List.length_map]; omega, fun u hu => hu, rfl⟩ H e Q q
end
end Up

/-! text UpL -/
set_option Elab.async false
set_option linter.all false
set_option maxRecDepth 100000
set_option maxHeartbeats 4000000
/-! objects of a def's own: lists and dicts that change; locks -/
namespace Up
open PySem PySem.Spec PyProof.Rows L2

/-! ### heaps -/
theorem upd_comm {H : Hp} {a b : Addr} {x y : HO} (h : a ≠ b) : upd (upd H a x) b y = upd (upd H b y) a x := by
  funext c
  by_cases z : c = a
  · subst z; rw [upd_ne h, upd_same, upd_same]
  · by_cases z2 : c = b
    · subst z2; rw [upd_same, upd_ne z, upd_same]
    · rw [upd_ne z2, upd_ne z, upd_ne z, upd_ne z2]
theorem upd_upd {H : Hp} {a : Addr} {x y : HO} : upd (upd H a x) a y = upd H a y := by
  funext c
  by_cases z : c = a
  · subst z; rw [upd_same, upd_same]
  · rw [upd_ne z, upd_ne z, upd_ne z]
theorem upd_self {H : Hp} {a : Addr} {x : HO} (h : H a = some x) : upd H a x = H := by
  funext c
  by_cases z : c = a
  · subst z; rw [upd_same, h]
  · rw [upd_ne z]
section
variable {M : Addr → Prop} {G H G1 H1 G2 H2 : Hp} {p : Addr} {o : HO}
/-- an object of one's own seen as a datum for a while, then no more -/
theorem Gr.forget (a : Gr N0 (upd G p o) H G2 H2) (e : Ex G H) (g : G p = none) (hp : H p = some o) (nt : NoT o := by intro _ z; cases z) : Gr N0 G H (delH G2 p) H2 where
  gg := fun x u q => by
    have ne : x ≠ p := fun z => by rw [z, g] at q; cases q
    rw [delH_ne ne]
    exact a.gg x u (by rw [upd_ne ne]; exact q)
  gh := fun x u q => by
    by_cases z : x = p
    · rw [z, delH_same] at q; cases q
    · rw [delH_ne z] at q; exact a.gh x u q
  hh := a.hh
  mm := a.mm
  nw := fun x u q h n => by
    by_cases z : x = p
    · rw [z]; exact delH_same
    · rw [delH_ne z]
      exact a.nw x u (by rw [upd_ne z]; exact q) h n
theorem Ex.own (e : Ex G H) (hp : H p = some o) : Ex (upd G p o) H := fun x u q => by
  by_cases z : x = p
  · subst z; rw [upd_same] at q; cases q; exact hp
  · rw [upd_ne z] at q; exact e x u q
/-- a test that reads an object of one's own -/
theorem GT.own {tt : TT} {σ : L2.St} {b : Bool} (h : GT tt σ (upd G p o) b) (e : Ex G H) (g : G p = none) (hp : H p = some o) (nt : NoT o := by intro _ z; cases z) (Q : Bool → Hp → Prop)
    (k : ∀ G' H', Gr N0 G H G' H' → Q b H') : tt σ H Q := h H (e.own hp) Q fun G' H' g' => k _ H' (g'.forget e g hp nt)
theorem GD.own {te : TE} {σ : L2.St} {d : D} (h : GD te σ (upd G p o) d) (e : Ex G H) (g : G p = none) (hp : H p = some o) (nt : NoT o := by intro _ z; cases z) (fl : ∀ (G G' : Hp) v, Rp G d v → Rp G' d v) (Q : VK)
    (k : ∀ v G' H', Gr N0 G H G' H' → Rp G' d v → Q v H') : te σ H Q := h H (e.own hp) Q fun v G' H' g' r => k v _ H' (g'.forget e g hp nt) (fl _ _ _ r)
end

theorem rp_del {G : Hp} {xs : List Str} {v : V} {p : Addr} {o : HO} (r : Rp G (.tup (xs.map .str)) v) (hp : G p = some o) (nt : NoT o) : Rp (delH G p) (.tup (xs.map .str)) v := by
  cases r with
  | @tup a vs _ ha rs =>
    obtain rfl := rs.strs
    have ne : a ≠ p := fun z => by rw [z, hp] at ha; cases ha; exact nt _ rfl
    exact .tup (by rw [delH_ne ne]; exact ha) (Rps.of_strs _)
theorem GD.ownT {te : TE} {σ : L2.St} {xs : List Str} {G H : Hp} {p : Addr} {o : HO} (h : GD te σ (upd G p o) (.tup (xs.map .str))) (e : Ex G H) (g : G p = none) (hp : H p = some o) (nt : NoT o) (Q : VK)
    (k : ∀ v G' H', Gr N0 G H G' H' → Rp G' (.tup (xs.map .str)) v → Q v H') : te σ H Q := h H (e.own hp) Q fun v G' H' g' r => k v _ H' (g'.forget e g hp nt) (rp_del r (g'.gg _ _ upd_same) nt)

mutual
/-- data of tuples alone -/
def tOnly : D → Bool
  | .tup ds => tOnlys ds
  | .str _ => true | .int _ => true | .bl _ => true | .non => true
  | _ => false
def tOnlys : List D → Bool
  | [] => true
  | d :: ds => tOnly d && tOnlys ds
end
mutual
theorem Rp.del {G : Hp} {p : Addr} {o : HO} (hp : G p = some o) (nt : NoT o) : ∀ (d : D) (v : V), tOnly d = true → Rp G d v → Rp (delH G p) d v
  | .non, _, _, h => by cases h; exact .non
  | .bl b, _, _, h => by cases h; exact .bl b
  | .int i, _, _, h => by cases h; exact .int i
  | .str x, _, _, h => by cases h; exact .str x
  | .ty _, _, n, _ => by cases n
  | .lst _, _, n, _ => by cases n
  | .ftup _, _, n, _ => by cases n
  | .dk _, _, n, _ => by cases n
  | .fk _, _, n, _ => by cases n
  | .dt _, _, n, _ => by cases n
  | .tup ds, _, n, h => by
    cases h with
    | @tup a vs _ ha rs =>
      have ne : a ≠ p := fun z => by rw [z, hp] at ha; cases ha; exact nt _ rfl
      exact .tup (by rw [delH_ne ne]; exact ha) (Rps.del hp nt ds vs n rs)
theorem Rps.del {G : Hp} {p : Addr} {o : HO} (hp : G p = some o) (nt : NoT o) : ∀ (ds : List D) (vs : List V), tOnlys ds = true → Rps G ds vs → Rps (delH G p) ds vs
  | [], _, _, h => by cases h; exact .nil
  | d :: ds, _, n, h => by
    have n' := Bool.and_eq_true_iff.mp n
    cases h with | cons h r => exact .cons (Rp.del hp nt d _ n'.1 h) (Rps.del hp nt ds _ n'.2 r)
end
theorem GD.ownD {te : TE} {σ : L2.St} {d : D} {G H : Hp} {p : Addr} {o : HO} (h : GD te σ (upd G p o) d) (e : Ex G H) (g : G p = none) (hp : H p = some o) (nt : NoT o) (n : tOnly d = true) (Q : VK)
    (k : ∀ v G' H', Gr N0 G H G' H' → Rp G' d v → Q v H') : te σ H Q := h H (e.own hp) Q fun v G' H' g' r => k v _ H' (g'.forget e g hp nt) (Rp.del (g'.gg _ _ upd_same) nt d v n r)

/-! ### while, by the heap itself -/
theorem s_whileH {tt : TT} {tu : TS} {En : Ends} {σ : L2.St} {H : Hp} (W : Nat → L2.St → Hp → Prop) {n : Nat} (h0 : W n σ H)
    (hs : ∀ m σ' H', W m σ' H' → tt σ' H' fun b H1 => if b = true then ∃ N : L2.St → Hp → Prop, (∀ σ' H', N σ' H' → ∃ m', m' < m ∧ W m' σ' H') ∧ tu { En with nx := N, ct := N, bk := En.nx } σ' H1 else En.nx σ' H1) : tWhile tt tu En σ H := ⟨W, ⟨n, h0⟩, hs⟩

/-! ### {k: v}, the key a tuple -/
def tDispT (tk tv : TE) : TE := fun σ H Q => ∀ p, H p = none → tPairs [(tk, tv)] σ (upd H p (.dT [])) fun ps H2 => ∃ y z, ps = [(y, z)] ∧ H2 p = some (.dT []) ∧ ∃ (k : List Key) (b : Addr), y = .ref b ∧ H2 b = some (.tup (k.map kV)) ∧ Q (.ref p) (upd H2 p (.dT [(k, z)]))
section
variable {X : Cx}
theorem d_setT {pins : List (Addr × Obj)} {σ : L2.St} {H : Hp} {s : Shared} {a : Addr} {A : Around} {E : Value → Shared → Prop} {kvs : List (List Key × V)} {k : List Key} {b : Addr} {v : V} {r : Value} {Q : Unit → Shared → Prop} (hu : A.units < cLine) (I : Inv X pins σ H s)
    (e : H a = some (.dT kvs)) (eb : H b = some (.tup (k.map kV))) (l : kvs.length < sizeLine) (rv : RelV v r) (h : ∀ s', Inv X pins σ (upd H a (.dT (putK kvs k v))) s' → Q () s') : wpAny (model X.prog X.w) A (dictSet a (.ref b) r) Q E s := by
  obtain ⟨z, hd, xs, rel, dd⟩ := dt_of I.hok e
  have hz : xs.length ≤ sizeLine := by rw [← Paired.length rel]; exact z
  have hl : (putK kvs k v).length ≤ sizeLine := by have := length_putK kvs k v; omega
  refine wpAny_dictSet_heap (hsz := hz) (show (tupleKind (mixKind X.prog X.w)).room A from hu) (key_of I.hok eb) dd fun h' dd' hs => h _ ?_
  obtain ⟨q, es, ep, hq, h2, h3, h4, _, h5⟩ := dd'
  refine d_write I (by rw [e]; exact True.intro) hs ⟨q, hq⟩ ⟨hl, hd, _, (rel.put k eb rv).keeps fun c ys ec => ?_, q, es, ep, hq, h2, h3, h4, h5⟩
  rw [upd_ne (ne_of ec e (fun z => nomatch z))]
  exact ec
theorem pe_dispT (hu : X.A.units + 1 < cLine) {pos : Pos} {keys : List (Option Expr)} {values : List Expr} {tk tv : TE} (h : PPs X pos keys values [(tk, tv)]) (hall : keys.all (·.isSome) = true) (hl : keys.length = values.length) (h0 : keys ≠ [])
    (h15 : keys.length ≤ 15) : PE X (.Dict keys values pos) (tDispT tk tv) := by
  refine ⟨fun pins s σ H Q I q => ?_⟩
  have hn := I.hok.fresh (Nat.le_refl s.heap.objs.size)
  have I1 := I.laid (a := s.heap.objs.size) (o := .dT []) (h' := s.heap.push { cls := .type "dict", data := .dict #[] }) (t' := s.toks) (fun _ _ q => Heap.get?_push_of_some _ q) (Nat.le_refl _) (dt_empty s.heap I.big)
  have q' := q _ hn
  refine wpAny_Dict_any hall hl h0 h15 (thn (h.run pins _ σ _ _ I1 q') fun ws s2 ⟨ps, H2, I2, rel, y, z, ep, e, k, b, ey, eb, q2⟩ => ?_)
  subst ep ey
  cases rel with
  | @cons _ w2 _ _ r t =>
    cases t
    obtain ⟨r1, r2⟩ := r
    obtain ⟨u1, u2⟩ := w2
    cases (show u1 = Value.ref b from r1)
    unfold storeAll
    rw [List.forIn_cons]
    refine wpAny_bind (wpAny_bind (d_setT (by omega) I2 e eb (by show 0 < sizeLine; decide) r2 fun s' I3 => wpAny_pure ?_))
    exact wpAny_pure ⟨.ref s.heap.objs.size, _, I3, rfl, q2⟩
end

/-! ### locks -/
theorem Ex.unlock {G G5 : Hp} {d : Addr} {x y : HO} (e : Ex (upd G d y) G5) (hd : G d = some x) : Ex G (upd G5 d x) := fun a o h => by
  by_cases z : a = d
  · subst z; rw [hd] at h; cases h; exact upd_same
  · rw [upd_ne z]; exact e a o (by rw [upd_ne z]; exact h)
section
variable {G H G1 H1 G2 H2 : Hp} {d : Addr} {x y : HO}
theorem Gr.at_upd (a : Gr N0 G H G1 H1) (hd : H d = some x) (ht : NoT x) (hy : NoT y) : Gr N0 (upd G d y) (upd H d y) (upd G1 d y) (upd H1 d y) where
  gg := fun c u q => by
    by_cases z : c = d
    · subst z; rw [upd_same] at q ⊢; exact q
    · rw [upd_ne z] at q ⊢; exact a.gg c u q
  gh := a.gh.both
  hh := fun c u _ q => by
    by_cases z : c = d
    · subst z; rw [upd_same] at q ⊢; exact q
    · rw [upd_ne z] at q ⊢; exact a.at0 q
  mm := fun c u q => by
    by_cases z : c = d
    · subst z; rw [upd_same] at q ⊢; exact ⟨u, q, id⟩
    · rw [upd_ne z] at q ⊢; exact a.mm c u q
  nw := fun c u g q n => by
    by_cases z : c = d
    · subst z; rw [upd_same] at g; cases g
    · rw [upd_ne z] at g q ⊢; exact a.nw c u g q n
/-- within a lock of the dict at d, which stands as a datum outside -/
structure Lk (d : Addr) (ws : List (Key × V)) (od : Obj) (G H G' H' : Hp) : Prop where
  at_ : G' d = some (.frz od (.dK ws))
  out : Gr N0 G H (upd G' d (.dK ws)) (upd H' d (.dK ws))
  ex : Ex G' H'
variable {ws : List (Key × V)} {od : Obj}
theorem Lk.start (a : Gr N0 G H G1 H1) (hd : G1 d = some (.dK ws)) : Lk d ws od G H (upd G1 d (.frz od (.dK ws))) (upd H1 d (.frz od (.dK ws))) :=
  ⟨upd_same, by rw [upd_upd, upd_upd, upd_self hd, upd_self (a.gh _ _ hd)]; exact a, a.gh.both⟩
theorem Lk.step (l : Lk d ws od G H G1 H1) (a : Gr N0 G1 H1 G2 H2) : Lk d ws od G H G2 H2 :=
  ⟨a.gg _ _ l.at_, l.out.trans (a.at_upd (l.ex _ _ l.at_) (by intro _ z; cases z) (by intro _ z; cases z)), a.gh⟩
theorem Lk.put (l : Lk d ws od G H G1 H1) {p : Addr} {o : HO} (hp : H p = none) (g : G1 p = none) (nt : NoT o := by intro _ z; cases z) : Lk d ws od G H G1 (upd H1 p o) := by
  have ne : p ≠ d := fun z => by rw [z, l.at_] at g; cases g
  refine ⟨l.at_, ?_, l.ex.mut g⟩
  rw [upd_comm ne]
  exact l.out.put (.inl hp) (by rw [upd_ne ne]; exact g) nt
/-- data without dicts stand in and out of the lock -/
theorem lock_le (hd : G d = some (.dK ws)) : Le G (upd G d (.frz od (.dK ws))) where
  t := fun a vs h => by rw [upd_ne (ne_of h hd (fun z => nomatch z))]; exact h
  l := fun a vs h => by rw [upd_ne (ne_of h hd (fun z => nomatch z))]; exact h
  f := fun a o vs h => by
    have ne : a ≠ d := fun z => by rw [z, hd] at h; cases h
    rw [upd_ne ne]; exact h
  r := fun a u h => by
    by_cases z : a = d
    · subst z
      rcases h with h | ⟨o, h⟩
      · rw [hd] at h; cases h; exact .inr ⟨od, upd_same⟩
      · rw [hd] at h; cases h
    · rcases h with h | ⟨o, h⟩
      · exact .inl (by rw [upd_ne z]; exact h)
      · exact .inr ⟨o, by rw [upd_ne z]; exact h⟩
  rt := fun a u h => by
    by_cases z : a = d
    · subst z
      rcases h with h | ⟨o, h⟩
      · rw [hd] at h; cases h
      · rw [hd] at h; cases h
    · rcases h with h | ⟨o, h⟩
      · exact .inl (by rw [upd_ne z]; exact h)
      · exact .inr ⟨o, by rw [upd_ne z]; exact h⟩
theorem unlock_le (hd : G d = some (.frz od (.dK ws))) : Le G (upd G d (.dK ws)) where
  t := fun a vs h => by rw [upd_ne (ne_of h hd (fun z => nomatch z))]; exact h
  l := fun a vs h => by rw [upd_ne (ne_of h hd (fun z => nomatch z))]; exact h
  f := fun a o vs h => by
    have ne : a ≠ d := fun z => by rw [z, hd] at h; cases h
    rw [upd_ne ne]; exact h
  r := fun a u h => by
    by_cases z : a = d
    · subst z
      rcases h with h | ⟨o, h⟩
      · rw [hd] at h; cases h
      · rw [hd] at h; cases h; exact .inl upd_same
    · rcases h with h | ⟨o, h⟩
      · exact .inl (by rw [upd_ne z]; exact h)
      · exact .inr ⟨o, by rw [upd_ne z]; exact h⟩
  rt := fun a u h => by
    by_cases z : a = d
    · subst z
      rcases h with h | ⟨o, h⟩
      · rw [hd] at h; cases h
      · rw [hd] at h; cases h
    · rcases h with h | ⟨o, h⟩
      · exact .inl (by rw [upd_ne z]; exact h)
      · exact .inr ⟨o, by rw [upd_ne z]; exact h⟩
theorem Rp.locked {x : D} {v : V} (r : Rp G x v) (n : noDk x = true) (hd : G d = some (.dK ws)) : Rp (upd G d (.frz od (.dK ws))) x v := Rp.le (lock_le hd) x v (.inl n) r
theorem Rp.unlocked {x : D} {v : V} (r : Rp G x v) (n : noDk x = true) (hd : G d = some (.frz od (.dK ws))) : Rp (upd G d (.dK ws)) x v := Rp.le (unlock_le hd) x v (.inl n) r
/-- the table itself -/
theorem rp_fk {kvs : List (Key × D)} (hd : G d = some (.dK ws)) (r : Rpk G kvs ws) (n : noDkk kvs = true) : Rp (upd G d (.frz od (.dK ws))) (.fk kvs) (.ref d) :=
  .fk (.inr ⟨od, upd_same⟩) (Rpk.le (lock_le hd) kvs ws (.inl n) r)
end
/-- a dict's key as a datum -/
def keyD : Key → D
  | .inl i => .int i
  | .inr s => .str s
theorem rp_keyD {G : Hp} (k : Key) : Rp G (keyD k) (kV k) := by
  cases k with
  | inl i => exact .int i
  | inr s => exact .str s
section
variable {σ : L2.St} {G H : Hp} {td : TE}
/-- for k in d, d locked -/
theorem gi_keys {kvs : List (Key × D)} {i : Nat} {d : Addr} {od : Obj} {ws : List (Key × V)} (hi : σ[i]? = some (some (.ref d))) (hd : G d = some (.frz od (.dK ws))) (hk : ws.map (·.1) = kvs.map (·.1)) : GI (iKeys (tVar i)) σ G (kvs.map fun kv => keyD kv.1) := fun H e R q => by
  have hl : ws.length = kvs.length := by have := congrArg List.length hk; rwa [List.length_map, List.length_map] at this
  refine ⟨_, hi, d, od, rfl, .inl ⟨ws, e _ _ hd, q _ G H (.refl e) ⟨fun j H hj z => ?_, fun H z => ?_, fun j H v H' hj z y G' x e1 e2 hx => ?_⟩⟩⟩
  · rw [List.length_map] at hj
    exact ⟨z _ _ hd, by omega⟩
  · exact ⟨z _ _ hd, by rw [List.length_map]; omega⟩
  · obtain ⟨rfl, k, w, h1, rfl⟩ := y
    have : x = keyD k := by
      have h2 : (kvs.map (·.1))[j]? = some k := by rw [← hk, List.getElem?_map, h1]; rfl
      rw [List.getElem?_map] at h2 hx
      cases q3 : kvs[j]? with
      | none => rw [q3] at h2; cases h2
      | some p => rw [q3] at h2 hx; cases h2; cases hx; rfl
    subst this
    exact ⟨G', .refl e2, rp_keyD k⟩
theorem rpk_keys {G : Hp} : ∀ {kvs : List (Key × D)} {ws : List (Key × V)}, Rpk G kvs ws → ws.map (·.1) = kvs.map (·.1)
  | [], _, h => by cases h; rfl
  | (k, d) :: kvs, _, h => by cases h with | cons _ r => rw [List.map_cons, List.map_cons, rpk_keys r]
end

/-! ### lists and dicts of one's own -/
section
variable {K : PySem.W.Frag} {σ : L2.St} {G H : Hp} {te ta : TE} {tr : TA} {En : Ends} {d : D} {p : Addr}
/-- xs.append(e), e read at this heap -/
theorem s_appendP {i : Nat} {vs : List V} (hi : σ[i]? = some (some (.ref p))) (h : ∀ Q : VK, (∀ v G' H', Gr N0 G H G' H' → Rp G' d v → Q v H') → te σ H Q) (hp : H p = some (.lst vs)) (hl : vs.length < 100000) (k : ∀ v G' H', Gr N0 G H G' H' → Rp G' d v → H' p = some (.lst vs) → En.nx σ (upd H' p (.lst (vs ++ [v])))) :
    tDrop (tBM K "list" rAppend (tVar i) (tCons te tNil)) En σ H :=
  ⟨_, hi, .inl ⟨rfl, _, SqL.of hp⟩, h _ fun v G' H' g r => ⟨p, vs, v, rfl, rfl, g.at0 hp, sz_lt hl, k v G' H' g r (g.at0 hp)⟩⟩
/-- xs.append(e) -/
theorem s_append {i : Nat} {vs : List V} (hi : σ[i]? = some (some (.ref p))) (h : GD te σ G d) (e : Ex G H) (hp : H p = some (.lst vs)) (hl : vs.length < 100000) (k : ∀ v G' H', Gr N0 G H G' H' → Rp G' d v → H' p = some (.lst vs) → En.nx σ (upd H' p (.lst (vs ++ [v])))) :
    tDrop (tBM K "list" rAppend (tVar i) (tCons te tNil)) En σ H :=
  ⟨_, hi, .inl ⟨rfl, _, SqL.of hp⟩, h H e _ fun v G' H' g r => ⟨p, vs, v, rfl, rfl, g.at0 hp, sz_lt hl, k v G' H' g r (g.at0 hp)⟩⟩
/-- xs.pop() -/
theorem e_pop {i : Nat} {vs : List V} {v : V} {Q : VK} (hi : σ[i]? = some (some (.ref p))) (hp : H p = some (.lst (vs ++ [v]))) (k : Q v (upd H p (.lst vs))) : tBM0 K "list" rPop (tVar i) σ H Q := by
  refine ⟨_, hi, .inl ⟨rfl, _, SqL.of hp⟩, p, _, v, rfl, rfl, hp, ?_, ?_⟩
  · rw [List.length_append, List.length_singleton]; simp
  · rw [List.dropLast_concat]; exact k
/-- d[k] = e, the key a tuple of texts -/
theorem s_dputT {i : Nat} {tk : TE} {ws : List (List Key × V)} {t : List Str} (hi : σ[i]? = some (some (.ref p))) (h : GD te σ G d) (hk : GD tk σ G (.tup (t.map .str))) (e : Ex G H) (hp : H p = some (.dT ws)) (hl : ws.length < 100000)
    (k : ∀ v G' H', Gr N0 G H G' H' → Rp G' d v → H' p = some (.dT ws) → En.nx σ (upd H' p (.dT (putK ws (t.map Sum.inr) v)))) : sDPut (tVar i) tk te En σ H :=
  h H e _ fun v G1 H1 g1 r1 => ⟨_, hi, (hk.mono g1.gg) H1 g1.gh _ fun y G2 H2 g2 r2 => by
    cases r2 with
    | tup ha rs =>
      obtain rfl := rs.strs
      have g := g1.trans g2
      refine ⟨p, _, rfl, .inr ⟨ws, t.map Sum.inr, _, g.at0 hp, rfl, ?_, sz_lt hl, rfl⟩, k v G2 H2 g (r1.mono g2.gg) (g.at0 hp)⟩
      rw [List.map_map]
      exact g2.gh _ _ ha⟩
/-- d[k] = e, the key an int or a text -/
theorem s_dputK {i : Nat} {tk : TE} {ws : List (Key × V)} {x : Key} (hi : σ[i]? = some (some (.ref p))) (h : GD te σ G d) (hk : GD tk σ G (keyD x)) (e : Ex G H) (hp : H p = some (.dK ws)) (hl : ws.length < 100000)
    (k : ∀ v G' H', Gr N0 G H G' H' → Rp G' d v → H' p = some (.dK ws) → En.nx σ (upd H' p (.dK (putK ws x v)))) : sDPut (tVar i) tk te En σ H :=
  h H e _ fun v G1 H1 g1 r1 => ⟨_, hi, (hk.mono g1.gg) H1 g1.gh _ fun y G2 H2 g2 r2 => by
    have hy : y = kV x := by
      cases x with
      | inl i => cases r2; rfl
      | inr s => cases r2; rfl
    subst hy
    have g := g1.trans g2
    exact ⟨p, _, rfl, .inl ⟨ws, x, g.at0 hp, rfl, sz_lt hl, rfl⟩, k v G2 H2 g (r1.mono g2.gg) (g.at0 hp)⟩⟩
theorem inr_inj {s t : List Str} (h : s.map (Sum.inr : Str → Key) = t.map Sum.inr) : s = t := (List.map_inj_right fun _ _ e => Sum.inr.inj e).mp h
def dtK (f : List (List Str × D)) : List (List Key × D) := f.map fun p => (p.1.map Sum.inr, p.2)
theorem rpt_none {G : Hp} {t : List Str} : ∀ {f : List (List Str × D)} {ws : List (List Key × V)}, Rpt G (dtK f) ws → t ∉ f.map (·.1) → valV ws (t.map Sum.inr) = none
  | [], _, h, _ => by cases h; rfl
  | (s, d) :: f, _, h, n => by
    cases h with
    | cons h r =>
      have ne : ¬ s.map (Sum.inr : Str → Key) = t.map Sum.inr := fun z => n (by rw [List.map_cons, inr_inj z]; exact List.mem_cons_self)
      rw [valV_neg ne]
      exact rpt_none r fun z => n (by rw [List.map_cons]; exact List.mem_cons_of_mem _ z)
theorem rpt_some {G : Hp} {t : List Str} : ∀ {f : List (List Str × D)} {ws : List (List Key × V)}, Rpt G (dtK f) ws → ∀ {d : D}, (f.find? fun p => decide (p.1 = t)).map (·.2) = some d → ∃ v, valV ws (t.map Sum.inr) = some v ∧ Rp G d v
  | [], _, _, d, e => by cases e
  | (s, d') :: f, _, h, d, e => by
    cases h with
    | cons h r =>
      by_cases z : s = t
      · rw [List.find?_cons_of_pos (by simpa using z)] at e
        cases e
        refine ⟨_, ?_, h⟩
        unfold valV
        rw [List.find?_cons_of_pos (by simp [z])]; rfl
      · rw [List.find?_cons_of_neg (by simpa using z)] at e
        obtain ⟨v, h1, h2⟩ := rpt_some r e
        exact ⟨v, by rw [valV_neg (fun y => z (inr_inj y))]; exact h1, h2⟩
theorem find_mem {α : Type} {t : List Str} : ∀ {f : List (List Str × α)}, t ∈ f.map (·.1) → ∃ d, (f.find? fun p => decide (p.1 = t)).map (·.2) = some d
  | [], h => by cases h
  | (s, d) :: f, h => by
    by_cases z : s = t
    · exact ⟨d, by rw [List.find?_cons_of_pos (by simpa using z)]; rfl⟩
    · rw [List.find?_cons_of_neg (by simpa using z)]
      refine find_mem ?_
      rw [List.map_cons] at h
      rcases List.mem_cons.mp h with e | e
      · exact absurd e.symm z
      · exact e
theorem rpt_is {G : Hp} {t : List Str} {f : List (List Str × D)} {ws : List (List Key × V)} (r : Rpt G (dtK f) ws) : (valV ws (t.map Sum.inr)).isSome = decide (t ∈ f.map (·.1)) := by
  by_cases h : t ∈ f.map (·.1)
  · obtain ⟨d, e⟩ := find_mem h
    obtain ⟨v, e2, _⟩ := rpt_some r e
    rw [e2, decide_eq_true h]; rfl
  · rw [rpt_none r h, decide_eq_false h]; rfl
/-- k in d, k not in d, d[k]: tuple keys -/
theorem gd_dinT {td tk : TE} {t : List Str} {f : List (List Str × D)} (hk : GD tk σ G (.tup (t.map .str))) (h : GD td σ G (.dt (dtK f))) : GD (tDIn tk td) σ G (.bl (decide (t ∈ f.map (·.1)))) := fun H e Q q =>
  hk H e _ fun y G1 H1 g1 r1 => (h.mono g1.gg) H1 g1.gh _ fun x G2 H2 g2 r2 => by
    cases r1 with
    | tup ha rs =>
      obtain rfl := rs.strs
      cases r2 with
      | dt hb rt =>
        refine ⟨_, valV _ (t.map Sum.inr), rfl, .inr ⟨_, t.map Sum.inr, _, g2.gh.le.rt _ _ hb, rfl, ?_, rfl⟩, ?_⟩
        · rw [List.map_map]; exact g2.gh _ _ (g2.gg _ _ ha)
        · rw [rpt_is rt]; exact q _ G2 H2 (g1.trans g2) (.bl _)
theorem gd_dnotinT {td tk : TE} {t : List Str} {f : List (List Str × D)} (hk : GD tk σ G (.tup (t.map .str))) (h : GD td σ G (.dt (dtK f))) : GD (tDNotIn tk td) σ G (.bl (!decide (t ∈ f.map (·.1)))) := fun H e Q q =>
  hk H e _ fun y G1 H1 g1 r1 => (h.mono g1.gg) H1 g1.gh _ fun x G2 H2 g2 r2 => by
    cases r1 with
    | tup ha rs =>
      obtain rfl := rs.strs
      cases r2 with
      | dt hb rt =>
        refine ⟨_, valV _ (t.map Sum.inr), rfl, .inr ⟨_, t.map Sum.inr, _, g2.gh.le.rt _ _ hb, rfl, ?_, rfl⟩, ?_⟩
        · rw [List.map_map]; exact g2.gh _ _ (g2.gg _ _ ha)
        · rw [rpt_is rt]; exact q _ G2 H2 (g1.trans g2) (.bl _)
theorem gd_dgetT {td tk : TE} {t : List Str} {f : List (List Str × D)} {d : D} (h : GD td σ G (.dt (dtK f))) (hk : GD tk σ G (.tup (t.map .str))) (e : (f.find? fun p => decide (p.1 = t)).map (·.2) = some d) : GD (tDGet td tk) σ G d := fun H e' Q q =>
  h H e' _ fun x G1 H1 g1 r1 => (hk.mono g1.gg) H1 g1.gh _ fun y G2 H2 g2 r2 => by
    cases r2 with
    | tup ha rs =>
      obtain rfl := rs.strs
      cases r1 with
      | dt hb rt =>
        obtain ⟨v, e1, rv⟩ := rpt_some rt e
        refine ⟨_, v, rfl, .inr ⟨_, t.map Sum.inr, _, g2.gh.le.rt _ _ (g2.gg.le.rt _ _ hb), rfl, ?_, e1.symm⟩, q v G2 H2 (g1.trans g2) (rv.mono g2.gg)⟩
        rw [List.map_map]; exact g2.gh _ _ ha
end
end Up

/-! text Up6 -/
set_option Elab.async false
set_option linter.all false
set_option maxRecDepth 100000
set_option maxHeartbeats 4000000
/-! standings_of -/
namespace Up
open PySem PySem.Spec PyProof.Rows L2 UpS

/-! ### the mirror -/
def valT (f : List (T1 × T1)) (k : T1) : T1 := ((f.find? fun p => decide (p.1 = k)).map (·.2)).getD []
abbrev SSt := List (T1 × T1) × List T1
def sStep (b : Bk) (here : T1) (st : SSt) (u : Str) : SSt :=
  if lets b here u then if setOf (here ++ [u]) ∈ st.1.map (·.1) then st else (st.1 ++ [(setOf (here ++ [u]), valT st.1 here ++ [u])], st.2 ++ [setOf (here ++ [u])]) else st
def sLoop (b : Bk) : Nat → SSt → List (T1 × T1)
  | 0, st => st.1
  | n + 1, st => match st.2.getLast? with
    | none => st.1
    | some here => sLoop b n ((names b).foldl (sStep b here) (st.1, st.2.dropLast))
def standM (b : Bk) : List (T1 × T1) := sLoop b (2 ^ b.length) ([([], [])], [[]])
structure SInv (b : Bk) (st : SSt) : Prop where
  nd : (st.1.map (·.1)).Nodup
  srt : ∀ p ∈ st.1, Sst ltS p.1 ∧ ∀ x ∈ p.1, x ∈ names b
  len : ∀ p ∈ st.1, p.2.length ≤ p.1.length
  fr : ∀ t ∈ st.2, t ∈ st.1.map (·.1)
theorem SInv.few {b : Bk} {st : SSt} (I : SInv b st) : st.1.length ≤ 2 ^ b.length := by
  have h := few_sets (ns := names b) I.nd fun t ht => by
    obtain ⟨p, hp, rfl⟩ := List.mem_map.mp ht
    exact I.srt p hp
  unfold names at h
  rw [List.length_map, List.length_map] at h
  exact h
theorem SInv.key_len {b : Bk} {st : SSt} (I : SInv b st) {t : T1} (h : t ∈ st.1.map (·.1)) : t.length ≤ b.length := by
  obtain ⟨p, hp, rfl⟩ := List.mem_map.mp h
  have q := I.srt p hp
  have := lenLe (m := names b) (q.1.nodup ordS) q.2
  unfold names at this
  rwa [List.length_map] at this
theorem valT_at {f : List (T1 × T1)} {k : T1} (h : k ∈ f.map (·.1)) : ∃ p ∈ f, p.1 = k ∧ valT f k = p.2 ∧ (f.find? fun p => decide (p.1 = k)) = some p := by
  cases q : f.find? (fun p => decide (p.1 = k)) with
  | none =>
    obtain ⟨p, hp, e⟩ := List.mem_map.mp h
    have := List.find?_eq_none.mp q p hp
    simp [e] at this
  | some p =>
    have h1 := List.find?_some q
    refine ⟨p, List.mem_of_find?_eq_some q, by simpa using h1, ?_, rfl⟩
    unfold valT
    rw [q]; rfl
theorem setOf_len {here : T1} {u : Str} (h : Sst ltS here) (n : u ∉ here) : (setOf (here ++ [u])).length = here.length + 1 := by
  unfold setOf sset
  rw [len_isort, dedup_self (nodup_snoc (h.nodup ordS) n), List.length_append, List.length_singleton]
theorem SInv.step {b : Bk} {here : T1} {st : SSt} {u : Str} (I : SInv b st) (hh : here ∈ st.1.map (·.1)) (hu : u ∈ names b) : SInv b (sStep b here st u) ∧ here ∈ (sStep b here st u).1.map (·.1) ∧ (sStep b here st u).1.length + st.2.length = st.1.length + (sStep b here st u).2.length := by
  unfold sStep
  by_cases h1 : lets b here u = true
  · rw [if_pos h1]
    by_cases h2 : setOf (here ++ [u]) ∈ st.1.map (·.1)
    · rw [if_pos h2]; exact ⟨I, hh, rfl⟩
    · rw [if_neg h2]
      obtain ⟨p0, hp0, e0, v0, _⟩ := valT_at hh
      refine ⟨⟨?_, fun p hp => ?_, fun p hp => ?_, fun t ht => ?_⟩, ?_, ?_⟩
      · rw [List.map_append]; exact nodup_snoc I.nd h2
      · rcases List.mem_append.mp hp with z | z
        · exact I.srt p z
        · rw [List.mem_singleton.mp z]
          refine ⟨sset_sst ordS _, fun x hx => ?_⟩
          rcases List.mem_append.mp (mem_sset.mp hx) with y | y
          · exact (I.srt p0 hp0).2 x (by rw [e0]; exact y)
          · rw [List.mem_singleton.mp y]; exact hu
      · rcases List.mem_append.mp hp with z | z
        · exact I.len p z
        · rw [List.mem_singleton.mp z]
          have hs : Sst ltS here := by rw [← e0]; exact (I.srt p0 hp0).1
          have h3 := I.len p0 hp0
          rw [e0] at h3
          show (valT st.1 here ++ [u]).length ≤ (setOf (here ++ [u])).length
          rw [setOf_len hs (lets_out h1), v0, List.length_append, List.length_singleton]
          omega
      · rw [List.map_append]
        rcases List.mem_append.mp ht with z | z
        · exact List.mem_append_left _ (I.fr t z)
        · exact List.mem_append_right _ (by rw [List.mem_singleton.mp z]; exact List.mem_singleton.mpr rfl)
      · rw [List.map_append]; exact List.mem_append_left _ hh
      · simp only [List.length_append, List.length_singleton]; omega
  · rw [if_neg h1]; exact ⟨I, hh, rfl⟩
theorem take_at {α : Type} {l : List α} {i : Nat} {x : α} (h : l[i]? = some x) : l.take (i + 1) = l.take i ++ [x] := by
  rw [List.take_succ, h]; rfl
theorem rps_snoc {G : Hp} : ∀ {ds : List D} {d : D} {vs : List V}, Rps G (ds ++ [d]) vs → ∃ us v, vs = us ++ [v] ∧ Rps G ds us ∧ Rp G d v
  | [], d, _, h => by
    obtain ⟨a, rfl, r⟩ := h.i1
    exact ⟨[], a, rfl, .nil, r⟩
  | d0 :: ds, d, _, h => by
    cases h with
    | cons h r =>
      obtain ⟨us, v, rfl, r1, r2⟩ := rps_snoc r
      exact ⟨_ :: us, v, rfl, .cons h r1, r2⟩
theorem rpt_snoc {G : Hp} {k : List Key} {d : D} {v : V} : ∀ {f : List (List Key × D)} {ws : List (List Key × V)}, Rpt G f ws → Rp G d v → Rpt G (f ++ [(k, d)]) (ws ++ [(k, v)])
  | [], _, h, r => by cases h; exact .cons r .nil
  | _ :: _, _, h, r => by cases h with | cons h t => exact .cons h (rpt_snoc t r)
def foD (f : List (T1 × T1)) : List (T1 × D) := f.map fun p => (p.1, tS p.2)
theorem foD_keys (f : List (T1 × T1)) : (foD f).map (·.1) = f.map (·.1) := by unfold foD; rw [List.map_map]; rfl
theorem noDks_strs : ∀ xs : T1, noDks (xs.map D.str) = true
  | [] => rfl
  | _ :: xs => noDks_strs xs
theorem noDk_tS (xs : T1) : noDk (tS xs) = true := noDks_strs xs
theorem noDks_tSs : ∀ ts : T2, noDks (ts.map tS) = true
  | [] => rfl
  | t :: ts => Bool.and_eq_true_iff.mpr ⟨noDk_tS t, noDks_tSs ts⟩
theorem noDkt_fo : ∀ f : List (T1 × T1), noDkt (dtK (foD f)) = true
  | [] => rfl
  | p :: f => Bool.and_eq_true_iff.mpr ⟨noDk_tS p.2, noDkt_fo f⟩
theorem noDkk_tb : ∀ b : Bk, noDkk (tbK b) = true
  | [] => rfl
  | p :: b => Bool.and_eq_true_iff.mpr ⟨noDks_tSs p.2, noDkk_tb b⟩
theorem foD_find {f : List (T1 × T1)} {k : T1} (h : k ∈ f.map (·.1)) : ((foD f).find? fun p => decide (p.1 = k)).map (·.2) = some (tS (valT f k)) := by
  have key : ∀ f : List (T1 × T1), ((foD f).find? fun p => decide (p.1 = k)).map (·.2) = ((f.find? fun p => decide (p.1 = k)).map (·.2)).map tS := by
    intro f
    induction f with
    | nil => rfl
    | cons p f ih =>
      by_cases z : p.1 = k
      · have e1 : (foD (p :: f)).find? (fun p => decide (p.1 = k)) = some (p.1, tS p.2) := List.find?_cons_of_pos (by simpa using z)
        have e2 : (p :: f).find? (fun p => decide (p.1 = k)) = some p := List.find?_cons_of_pos (by simpa using z)
        rw [e1, e2]; rfl
      · have e1 : (foD (p :: f)).find? (fun p => decide (p.1 = k)) = (foD f).find? (fun p => decide (p.1 = k)) := List.find?_cons_of_neg (by simpa using z)
        have e2 : (p :: f).find? (fun p => decide (p.1 = k)) = f.find? (fun p => decide (p.1 = k)) := List.find?_cons_of_neg (by simpa using z)
        rw [e1, e2]; exact ih
  obtain ⟨p, _, _, hv, e⟩ := valT_at h
  rw [key, e, hv]; rfl
theorem tbK_keys (b : Bk) : (tbK b).map (fun kv => keyD kv.1) = (names b).map D.str := by
  unfold tbK names
  rw [List.map_map, List.map_map]; rfl
section
variable {P : Program} {w : World} {K : PySem.W.Frag} {mg : Str → Option Value} {base : Heap}
def fStand : List D → D → Prop := fun ds d => ∃ x b, ds = [x] ∧ IsBk x b ∧ Sm b ∧ d = .dt (dtK (foD (standM b)))
theorem ok_standings_of (M : Mo mg) (h : Df K mg "standings_of" s_standings_of p_standings_of) (hT : At P w K mg base "table_of" s_table_of p_table_of 4 (spD 1 fTable)) (hL : At P w K mg base "lets" s_lets p_lets 1 (spD 3 fLets))
    (hS : At P w K mg base "set_of" s_set_of p_set_of 1 (spD 1 fSetOf)) : At P w K mg base "standings_of" s_standings_of p_standings_of 5 (spD 1 fStand) := by
  obtain ⟨f_table_of, fd_table_of, F_table_of, b_table_of, g_table_of, G_table_of⟩ := hT
  obtain ⟨f_lets, fd_lets, F_lets, b_lets, g_lets, G_lets⟩ := hL
  obtain ⟨f_set_of, fd_set_of, F_set_of, b_set_of, g_set_of, G_set_of⟩ := hS
  obtain ⟨f, fd, F, b, g⟩ := h
  refine ⟨f, fd, F, b, g, F.ok c_standings_of (fun vs H Q E h => h.1) (fun cdv A outer s H vs Q E hr h => ?_)⟩
  obtain ⟨_, ds, d, G, e, r, ⟨x, bk, rfl, hb, S, rfl⟩, q⟩ := h
  obtain ⟨v0, rfl, rx⟩ := r.i1
  refine ⟨_, (pss_cons
    (ps_par3 (i := 1) (j := 2) (l := 3) rfl c_standings_of.nd rfl rfl rfl (by decide) (by decide) (by decide) rfl rfl rfl (pa_cons (pe_call G_table_of (hr.mono (by omega)) (by rfl) g_table_of F_table_of.kp b_table_of .nil pass0 (pa_cons (pv 0) pa_nil)) (pa_cons (pe_dispT (hu1 hr) (pps_cons (pe_tup pa_nil) (pe_tup pa_nil) pps_nil) (by rfl) (by rfl) (fun z => by cases z) (by decide)) (pa_cons (pe_lst (pa_cons (pe_tup pa_nil) pa_nil)) pa_nil))) (by rfl))
    (pss_cons
    (ps_while PassesOwn.never (pt_cmpR op_gt (pe_callB (k_len K) (by rfl) M.len_ PySem.boot_len (pa_cons (pv 3) pa_nil)) pe_int (nomark _)) (pss_cons
        (ps_set (i := 4) c_standings_of.nd rfl (by first | exact .inl rfl | exact .inr rfl) (pe_bm0 PySem.F.plainAttrs_list PySem.F.slot_list_pop PySem.F.type_list_pop mt_pop (pv 3)))
        (pss_one
        (ps_lock (ps_for PassesOwn.never rfl (pi_keys (pv 1)) (pg_name (i := 5) c_standings_of.nd rfl (by first | exact .inl rfl | exact .inr rfl)) (pss_one
            (ps_if (pt_val (pe_call G_lets (hr.mono (by omega)) (by rfl) g_lets F_lets.kp b_lets .nil pass0 (pa_cons (pv 1) (pa_cons (pv 4) (pa_cons (pv 5) pa_nil))))) (pss_cons
                (ps_set (i := 6) c_standings_of.nd rfl (by first | exact .inl rfl | exact .inr rfl) (pe_call G_set_of (hr.mono (by omega)) (by rfl) g_set_of F_set_of.kp b_set_of .nil pass0 (pa_cons (pe_tup (k_star K (pv 4) (pa_cons (pv 5) pa_nil))) pa_nil)))
                (pss_one
                (ps_if (pt_cmp (pc_dnotin (hu1 hr) (pv 6) (pv 2))) (pss_cons
                    (ps_dput (hu1 hr) (pv 2) (pv 6) (pe_tup (k_star K (pe_dget (hu1 hr) (pv 2) (pv 4) (fun _ _ => rfl)) (pa_cons (pv 5) pa_nil))) rfl)
                    (pss_one
                    (ps_expr (pe_bm PySem.F.plainAttrs_list PySem.F.slot_list_append PySem.F.type_list_append mt_append (pv 3) (pa_cons (pv 6) pa_nil))))) pss_nil))) pss_nil)))))))
    (pss_one
    (ps_ret (pv 2))))), ?_⟩
  have len := S.len
  have hN : 2 ^ bk.length ≤ 1024 := Nat.le_trans (Nat.pow_le_pow_right (by decide) len) (by decide)
  -- the table, the found ones, the fresh ones
  refine gd_call (ga_one (gd_var (i := 0) rfl rx)) rfl ⟨x, bk, rfl, hb, S, rfl⟩ H e _ fun v1 G1 H1 g1 r1 => ?_
  intro F0 hF0
  have gF := g1.gh.free hF0
  have gg1 := (g1.put (o := .dT []) (.inl (g1.free hF0)) gF)
  refine ⟨Nat.zero_le _, fun k0 hk0 => ⟨Nat.zero_le _, fun p0 hp0 => ?_⟩⟩
  have gg2 := (gg1.data (o := .tup []) hk0).data (o := .tup []) hp0
  have hFk : F0 ≠ k0 := fun z => by rw [← z, upd_same] at hk0; cases hk0
  have hFp : F0 ≠ p0 := fun z => by rw [← z, upd_ne hFk, upd_same] at hp0; cases hp0
  have hkp : k0 ≠ p0 := fun z => by rw [← z, upd_same] at hp0; cases hp0
  refine ⟨_, _, rfl, by rw [upd_ne hFp, upd_ne hFk, upd_same], [], k0, rfl, by rw [upd_ne hkp, upd_same]; rfl, ?_⟩
  have gF2 : (upd (upd G1 k0 (.tup [])) p0 (.tup [])) F0 = none := by rw [upd_ne hFp, upd_ne hFk]; exact gF
  have gg3 := gg2.put (o := .dT [([], .ref p0)]) (.inl (g1.free hF0)) gF2
  refine (gl_lst (ga_one (gd_tup ga_nil (Nat.zero_le _))) (by show 1 ≤ 100000; omega)) _ gg3.gh _ fun R0 vsR G4 H4 g4 hR1 hR2 hR3 rR => ?_
  have gg4 := gg3.trans g4
  refine ⟨_, _, _, rfl, ?_⟩
  have hFH : H F0 = none := g1.free hF0
  have hRH : H R0 = none := gg3.free hR1
  have hFG4 : G4 F0 = none := g4.off gF2 (o := .dT [([], .ref p0)]) upd_same
  have hFH4 : H4 F0 = some (.dT [([], .ref p0)]) := g4.at0 upd_same
  cases r1 with
  | @dk d1 wsT _ hd1 rT =>
  have m14 : Ex G1 G4 := fun a o h => g4.gg a o (by
    have n1 : a ≠ k0 := fun z => by
      have := (Ex.new (o := HO.dT []) (g1.gh.free hF0))
      rw [z] at h
      have h2 := g1.gh _ _ h
      have hk0' : H1 k0 = none := by
        by_cases y : k0 = F0
        · rw [y]; exact hF0
        · rwa [upd_ne y] at hk0
      rw [hk0'] at h2; cases h2
    have n2 : a ≠ p0 := fun z => by
      rw [z] at h
      have h2 := g1.gh _ _ h
      have hp0' : H1 p0 = none := by
        by_cases y : p0 = F0
        · exact absurd y.symm hFp
        · by_cases y2 : p0 = k0
          · exact absurd y2.symm hkp
          · rwa [upd_ne y2, upd_ne y] at hp0
      rw [hp0'] at h2; cases h2
    rw [upd_ne n2, upd_ne n1]; exact h)
  have rp0 : Rp G4 (tS []) (.ref p0) := (Rp.tup (G := upd (upd G1 k0 (.tup [])) p0 (.tup [])) upd_same .nil).mono g4.gg
  refine s_whileH (fun m σ' H' => ∃ G' f fr wsF vsR h4 h5 h6, σ' = [some v0, some (.ref d1), some (.ref F0), some (.ref R0), h4, h5, h6] ∧ Gr N0 G H G' H' ∧ G' F0 = none ∧ G' R0 = none ∧ H' F0 = some (.dT wsF) ∧ H' R0 = some (.lst vsR) ∧
      Rpt G' (dtK (foD f)) wsF ∧ Rps G' (fr.map tS) vsR ∧ G' d1 = some (.dK wsT) ∧ Rpk G' (tbK bk) wsT ∧ SInv bk (f, fr) ∧ sLoop bk m (f, fr) = standM bk ∧ m + f.length = 2 ^ bk.length + fr.length ∧ m ≤ 2 ^ bk.length)
    (n := 2 ^ bk.length) ⟨G4, [([], [])], [[]], _, vsR, none, none, none, rfl, gg4, hFG4, hR2, hFH4, hR3, .cons rp0 .nil, rR, m14 _ _ hd1, rT.mono m14, ?_, rfl, by simp, Nat.le_refl _⟩ ?_
  · refine ⟨List.nodup_cons.mpr ⟨List.not_mem_nil, List.nodup_nil⟩, fun p hp => ?_, fun p hp => ?_, fun t ht => ht⟩
    · rw [List.mem_singleton.mp hp]; exact ⟨List.Pairwise.nil, fun x hx => nomatch hx⟩
    · rw [List.mem_singleton.mp hp]; exact Nat.le_refl _
  · rintro m σ' H' ⟨G', f, fr, wsF, vsR, h4, h5, h6, rfl, gg, gF', gR', hF', hR', rF, rR', hd', rT', I, hs, hm, hml⟩
    have hvl := rR'.len
    rw [List.length_map] at hvl
    have few := I.few
    refine GT.own (G := G') (p := R0) (o := .lst vsR) (b := decide ((0 : Int) < (fr.length : Int))) ?_ gg.gh gR' hR' (by intro _ z; cases z) _ fun G2 H2 g2 => ?_
    · have rl : Rp (upd G' R0 (.lst vsR)) (.lst (fr.map tS)) (.ref R0) := .lst upd_same (rR'.mono (Ex.new gR'))
      have := gt_B (gd_op (r := rI0 fun i j => V.bl (decide (j < i))) (gd_cb (ga_one (gd_var (σ := [some v0, some (V.ref d1), some (V.ref F0), some (V.ref R0), h4, h5, h6]) (i := 3) rfl rl)) (rb_lenL (K := K))) (gd_c (.int 0)) ro_cmp)
      rw [List.length_map] at this
      exact this
    have hF2 := g2.at0 hF'
    have hR2' := g2.at0 hR'
    have gF2' := g2.off gF' hF'
    have gR2' := g2.off gR' hR'
    rcases List.eq_nil_or_concat fr with rfl | ⟨fr0, here, rfl⟩
    · refine iteF ?_
      -- done: the dict as a datum
      have e : f = standM bk := by
        rw [← hs]
        cases m with
        | zero => rfl
        | succ m => rfl
      refine ⟨_, rfl, q (.ref F0) _ H2 ((gg.trans g2).seal hFH hF2) (.dt (.inl upd_same) ?_)⟩
      rw [← e]
      exact (rF.mono g2.gg).mono (Ex.new gF2')
    · have hpos : decide ((0 : Int) < ((fr0 ++ [here]).length : Int)) = true := by
        rw [decide_eq_true_eq, List.length_append, List.length_singleton]; omega
      simp only [List.concat_eq_append] at hpos hs hm I rR' ⊢
      rw [hpos]
      refine iteT ?_
      cases m with
      | zero =>
        rw [List.length_append, List.length_singleton] at hm
        have := I.few
        simp only at this
        omega
      | succ m =>
      have hs' : sLoop bk m ((names bk).foldl (sStep bk here) (f, fr0)) = standM bk := by
        rw [← hs]
        conv => rhs; unfold sLoop
        simp only [List.getLast?_concat, List.dropLast_concat]
      rw [List.map_append] at rR'
      obtain ⟨us, v4, rfl, ru, r4⟩ := rps_snoc rR'
      have hh : here ∈ f.map (·.1) := I.fr here (List.mem_append_right _ (List.mem_singleton.mpr rfl))
      have I0 : SInv bk (f, fr0) := ⟨I.nd, I.srt, I.len, fun t ht => I.fr t (List.mem_append_left _ ht)⟩
      refine ⟨fun σ'' H'' => ∃ m', m' < m + 1 ∧ _, fun _ _ z => z, ?_⟩
      refine e_pop rfl hR2' ?_
      have gg5 := (gg.trans g2).put (o := .lst us) (.inl hRH) gR2'
      have hd2 := g2.gg _ _ hd'
      have neR : R0 ≠ d1 := fun z => by rw [z, hd2] at gR2'; cases gR2'
      have neF : F0 ≠ d1 := fun z => by rw [z, hd2] at gF2'; cases gF2'
      have neFR : F0 ≠ R0 := fun z => by rw [z, hR2'] at hF2; cases hF2
      -- the walk over the table, locked
      refine ⟨d1, .dK wsT, gg5.gh _ _ hd2, trivial, fun od => ?_⟩
      have L0 := Lk.start (od := od) gg5 hd2
      have rk0 : Rp (upd G2 d1 (.frz od (.dK wsT))) (.fk (tbK bk)) (.ref d1) := rp_fk hd2 (rT'.mono g2.gg) (noDkk_tb bk)
      refine sd_for (gi_keys (kvs := tbK bk) (ws := wsT) (i := 1) (d := d1) (od := od) rfl upd_same (rpk_keys rT')) L0.ex fun G6 H6 g6 => ?_
      have L6 := L0.step g6
      rw [tbK_keys]
      refine ⟨fun i σ'' G'' H'' => ∃ f' fr' wsF' vsR' h5' h6', σ'' = [some v0, some (.ref d1), some (.ref F0), some (.ref R0), some v4, h5', h6'] ∧ Ex G6 G'' ∧ Lk d1 wsT od G H G'' H'' ∧ G'' F0 = none ∧ G'' R0 = none ∧ H'' F0 = some (.dT wsF') ∧ H'' R0 = some (.lst vsR') ∧
        Rpt G'' (dtK (foD f')) wsF' ∧ Rps G'' (fr'.map tS) vsR' ∧ Rp G'' (tS here) v4 ∧ Rp G'' (.fk (tbK bk)) (.ref d1) ∧ (f', fr') = ((names bk).take i).foldl (sStep bk here) (f, fr0) ∧ SInv bk (f', fr') ∧ here ∈ f'.map (·.1) ∧ f'.length + fr0.length = f.length + fr'.length,
        ⟨f, fr0, wsF, us, h5, h6, rfl, .refl _, L6, ?_, ?_, ?_, ?_, ?_, ?_, ?_, rk0.mono g6.gg, rfl, I0, hh, rfl⟩, ?_, ?_, ?_⟩
      · exact g6.off (o := .dT wsF) (by rw [upd_ne neF]; exact gF2') (by rw [upd_ne neF, upd_ne neFR]; exact hF2)
      · exact g6.off (o := .lst us) (by rw [upd_ne neR]; exact gR2') (by rw [upd_ne neR, upd_same])
      · exact g6.at0 (by rw [upd_ne neF, upd_ne neFR]; exact hF2)
      · exact g6.at0 (by rw [upd_ne neR, upd_same])
      · exact (Rpt.le (lock_le hd2) _ _ (.inl (noDkt_fo f)) (rF.mono g2.gg)).mono g6.gg
      · exact (Rps.le (lock_le hd2) _ _ (.inl (noDks_tSs fr0)) (ru.mono g2.gg)).mono g6.gg
      · exact ((r4.mono g2.gg).locked (noDk_tS here) hd2).mono g6.gg
      · rintro i σ'' G'' H'' ⟨f', fr', wsF', vsR', h5', h6', rfl, e6, L, _⟩
        exact ⟨e6, L.ex⟩
      · rintro i dd σ'' G'' H'' v5 G7 H7 hdd ⟨f', fr', wsF', vsR', h5', h6', rfl, e6, L, gF3, gR3, hF3, hR3', rF3, rR3, rh3, rk3, efr, I3, hh3, hl3⟩ g7 r5
        obtain ⟨u, hu, rfl⟩ : ∃ u, (names bk)[i]? = some u ∧ dd = .str u := by
          rw [List.getElem?_map] at hdd
          cases q9 : (names bk)[i]? with
          | none => rw [q9] at hdd; cases hdd
          | some u => rw [q9] at hdd; cases hdd; exact ⟨u, rfl, rfl⟩
        have hun := List.mem_of_getElem? hu
        have L7 := L.step g7
        have efr' : (sStep bk here (f', fr') u) = ((names bk).take (i + 1)).foldl (sStep bk here) (f, fr0) := by
          rw [take_at hu, List.foldl_append, ← efr]; rfl
        have st := I3.step hh3 hun
        have gF7 := g7.off gF3 hF3
        have gR7 := g7.off gR3 hR3'
        have hF7 := g7.at0 hF3
        have hR7 := g7.at0 hR3'
        have hkl := I3.key_len hh3
        refine s_if (b := lets bk here u) (gt_test (gd_call (ga_cons (gd_var (i := 1) rfl (rk3.mono g7.gg)) (ga_cons (gd_var (i := 4) rfl (rh3.mono g7.gg)) (ga_one (gd_var (i := 5) rfl r5)))) rfl ⟨_, _, u, bk, here, rfl, .inr rfl, .inl rfl, S, hun, rfl⟩)) L7.ex (fun hlt G8 H8 g8 => ?_) fun hlf G8 H8 g8 => ?_
        · have g78 := g7.trans g8
          have L8 := L.step g78
          refine sq_asg (gd_call (ga_one (gd_is (gd_tup (ga_star (gd_var (i := 4) rfl (rh3.mono g78.gg)) (.inl rfl) (ga_one (gd_var (i := 5) rfl (r5.mono g8.gg)))) (by simp; omega)) (show D.tup (here.map D.str ++ [D.str u]) = tS (here ++ [u]) by unfold tS; rw [List.map_append]; rfl))) rfl ⟨_, here ++ [u], rfl, .inl rfl, by simp; omega, rfl⟩) L8.ex fun v6 G9 H9 g9 r6 => ?_
          have g79 := g78.trans g9
          have L9 := L.step g79
          have gF9 := g79.off gF3 hF3
          have gR9 := g79.off gR3 hR3'
          have hF9 := g79.at0 hF3
          have hR9 := g79.at0 hR3'
          have rF9 := rF3.mono g79.gg
          -- there not in found
          unfold tIfS
          refine GT.own (G := G9) (p := F0) (o := .dT wsF') (b := !decide (setOf (here ++ [u]) ∈ f'.map (·.1))) ?_ L9.ex gF9 hF9 (by intro _ z; cases z) _ fun G10 H10 g10 => ?_
          · have rd : Rp (upd G9 F0 (.dT wsF')) (.dt (dtK (foD f'))) (.ref F0) := .dt (.inl upd_same) (rF9.mono (Ex.new gF9))
            have := gt_B (gd_dnotinT (f := foD f') (gd_var (σ := [some v0, some (V.ref d1), some (V.ref F0), some (V.ref R0), some v4, some v5, some v6]) (i := 6) rfl (r6.mono (Ex.new gF9))) (gd_var (i := 2) rfl rd))
            rw [foD_keys] at this
            exact this
          have g710 := g79.trans g10
          have L10 := L.step g710
          have gF10 := g710.off gF3 hF3
          have gR10 := g710.off gR3 hR3'
          have hF10 := g710.at0 hF3
          have hR10 := g710.at0 hR3'
          by_cases hin : setOf (here ++ [u]) ∈ f'.map (·.1)
          · rw [show (!decide (setOf (here ++ [u]) ∈ f'.map (·.1))) = false by rw [decide_eq_true hin]; rfl]
            refine iteF ⟨G10, f', fr', wsF', vsR', _, _, rfl, e6.trans g710.gg, L10, gF10, gR10, hF10, hR10, rF3.mono g710.gg, rR3.mono g710.gg, rh3.mono g710.gg, rk3.mono g710.gg, ?_, I3, hh3, hl3⟩
            rw [← efr']
            unfold sStep
            rw [if_pos hlt, if_pos hin]
          · rw [show (!decide (setOf (here ++ [u]) ∈ f'.map (·.1))) = true by rw [decide_eq_false hin]; rfl]
            have es : sStep bk here (f', fr') u = (f' ++ [(setOf (here ++ [u]), valT f' here ++ [u])], fr' ++ [setOf (here ++ [u])]) := by
              unfold sStep
              rw [if_pos hlt, if_neg hin]
            rw [es] at efr' st
            refine iteT ?_
            -- found[there] = (*found[here], unit)
            obtain ⟨p9, hp9, e9, hv9, _⟩ := valT_at hh3
            have hvlen := I3.len p9 hp9
            rw [e9, ← hv9] at hvlen
            have few3 : f'.length ≤ 2 ^ bk.length := I3.few
            have wl : wsF'.length = f'.length := by
              have := rF3.len
              unfold dtK foD at this
              rw [List.length_map, List.length_map] at this
              exact this.symm
            have rF10 := rF3.mono g710.gg
            have r610 := r6.mono g10.gg
            have rd : Rp (upd G10 F0 (.dT wsF')) (.dt (dtK (foD f'))) (.ref F0) := .dt (.inl upd_same) (rF10.mono (Ex.new gF10))
            have rh10 := rh3.mono g710.gg
            have gd := gd_dgetT (f := foD f') (t := here) (gd_var (σ := [some v0, some (V.ref d1), some (V.ref F0), some (V.ref R0), some v4, some v5, some v6]) (i := 2) rfl rd) (gd_var (i := 4) rfl (rh10.mono (Ex.new gF10))) (foD_find hh3)
            have gt := gd_tup (ga_star (K := K) gd (.inl rfl) (ga_one (gd_var (i := 5) rfl ((r5.mono (g8.gg.trans (g9.gg.trans g10.gg))).mono (Ex.new gF10))))) (by simp; omega)
            rw [show (valT f' here).map D.str ++ [D.str u] = (valT f' here ++ [u]).map D.str by rw [List.map_append]; rfl] at gt
            unfold tSeq sDPut
            refine gt.ownT L10.ex gF10 hF10 (by intro _ z; cases z) _ fun v11 G11 H11 g11 r11 => ?_
            cases r610 with
            | @tup b6 vs6 _ hb6 rs6 =>
            obtain rfl := rs6.strs
            have hb6' := g11.gh _ _ (g11.gg _ _ hb6)
            refine ⟨_, rfl, _, rfl, F0, _, rfl, .inr ⟨wsF', (setOf (here ++ [u])).map Sum.inr, b6, g11.at0 hF10, rfl, by rw [List.map_map]; exact hb6', sz_lt (by omega), rfl⟩, ?_⟩
            rw [putK_new _ (rpt_none rF10 (by rw [foD_keys]; exact hin))]
            have g711 := g710.trans g11
            have L11 := (L.step g711).put (p := F0) (o := .dT (wsF' ++ [((setOf (here ++ [u])).map Sum.inr, v11)])) hFH (g11.off gF10 hF10)
            have hR11 : (upd H11 F0 (.dT (wsF' ++ [((setOf (here ++ [u])).map Sum.inr, v11)]))) R0 = some (.lst vsR') := by
              rw [upd_ne (Ne.symm neFR)]; exact g711.at0 hR3'
            have rl3 := rR3.len
            rw [List.length_map] at rl3
            have few0 : f.length ≤ 2 ^ bk.length := I0.few
            have hm' := hm
            rw [List.length_append, List.length_singleton] at hm'
            have frl : vsR'.length ≤ 2048 := by omega
            refine s_append (i := 3) rfl (gd_var (i := 6) (d := tS (setOf (here ++ [u]))) rfl (.tup (g11.gg _ _ hb6) (Rps.of_strs _))) L11.ex hR11 (by omega) fun v12 G12 H12 g12 r12 hR12 => ?_
            have L12 := (L11.step g12).put (p := R0) (o := .lst (vsR' ++ [v12])) hRH (g12.off (g711.off gR3 hR3') hR11)
            refine ⟨G12, f' ++ [(setOf (here ++ [u]), valT f' here ++ [u])], fr' ++ [setOf (here ++ [u])], wsF' ++ [((setOf (here ++ [u])).map Sum.inr, v11)], vsR' ++ [v12], _, _, rfl, e6.trans (g711.gg.trans g12.gg), L12, ?_, ?_, ?_, upd_same, ?_, ?_, rh3.mono (g711.gg.trans g12.gg), rk3.mono (g711.gg.trans g12.gg), efr', st.1, st.2.1, ?_⟩
            · exact g12.off (o := .dT (wsF' ++ [((setOf (here ++ [u])).map Sum.inr, v11)])) (g711.off gF3 hF3) upd_same
            · exact g12.off (g711.off gR3 hR3') hR11
            · rw [upd_ne neFR]; exact g12.at0 upd_same
            · have := rpt_snoc (k := (setOf (here ++ [u])).map Sum.inr) (rF3.mono (g711.gg.trans g12.gg)) (r11.mono g12.gg)
              unfold dtK foD at this ⊢
              rw [List.map_append, List.map_append]
              exact this
            · rw [List.map_append]
              exact (rR3.mono (g711.gg.trans g12.gg)).append (.one r12)
            · have := st.2.2
              simp only at this
              omega
        · refine ⟨G8, f', fr', wsF', vsR', _, _, rfl, e6.trans (g7.gg.trans g8.gg), L7.step g8, g8.off gF7 hF7, g8.off gR7 hR7, g8.at0 hF7, g8.at0 hR7, rF3.mono (g7.gg.trans g8.gg), rR3.mono (g7.gg.trans g8.gg), rh3.mono (g7.gg.trans g8.gg), rk3.mono (g7.gg.trans g8.gg), ?_, I3, hh3, hl3⟩
          rw [← efr']
          unfold sStep
          rw [if_neg (by rw [hlf]; simp)]
      · rintro σ'' G'' H'' ⟨f', fr', wsF', vsR', h5', h6', rfl, e6, L, gF3, gR3, hF3, hR3', rF3, rR3, rh3, rk3, efr, I3, hh3, hl3⟩
        rw [List.length_map, List.take_length] at efr
        refine ⟨L.ex _ _ L.at_, m, Nat.lt_succ_self m, upd G'' d1 (.dK wsT), f', fr', wsF', vsR', _, _, _, rfl, L.out, ?_, ?_, ?_, ?_, ?_, ?_, upd_same, ?_, I3, by rw [← hs', ← efr], ?_, by omega⟩
        · rw [upd_ne neF]; exact gF3
        · rw [upd_ne neR]; exact gR3
        · rw [upd_ne neF]; exact hF3
        · rw [upd_ne neR]; exact hR3'
        · exact Rpt.le (unlock_le L.at_) _ _ (.inl (noDkt_fo f')) rF3
        · exact Rps.le (unlock_le L.at_) _ _ (.inl (noDks_tSs fr')) rR3
        · cases rk3 with
          | fk hd3 rT3 =>
            rcases hd3 with hd3 | ⟨o3, hd3⟩
            · rw [L.at_] at hd3; cases hd3
            · rw [L.at_] at hd3; cases hd3
              exact Rpk.le (unlock_le L.at_) _ _ (.inl (noDkk_tb bk)) rT3
        · rw [List.length_append, List.length_singleton] at hm; omega
end
end Up

/-! text UpKL -/
set_option Elab.async false
set_option linter.all false
set_option maxRecDepth 100000
set_option maxHeartbeats 4000000
/-! sorted(t, key=len), t a tuple of tuples of texts that stands by length -/
namespace UpS
open PySem PySem.Spec PySem.W PyProof.Rows L2 Up
def rSortLen (K : PySem.W.Frag) : List V → Hp → VK → Prop := fun vs H Q => ∃ (a : Addr) (L : List (Addr × List Str)), vs = [V.ref a] ∧ SqT K H a (L.map fun p => V.ref p.1) ∧ (∀ p ∈ L, SqT K H p.1 (p.2.map V.str)) ∧ L.Pairwise (fun p q => p.2.length ≤ q.2.length) ∧
  ∀ p, H p = none → Q (.ref p) (upd H p (.lst (L.map fun p => V.ref p.1)))
section
variable {X : Cx}
theorem isU_tup {P : Program} {w : World} {h : Heap} {k : List Str} {b : Addr} (x : IsU P w h k b) : ∃ its : List Value, IsTup h b its.toArray ∧ its.length = k.length := by
  obtain ⟨o, items, n, ho, hc, hd, hi⟩ := x
  refine ⟨items.toList, ⟨o, ho, hc, n, by rw [hd]⟩, ?_⟩
  have : ∀ {k : List Str} {vs : List Value}, ItemsAre (PySem.strKind P w) k vs → vs.length = k.length := by
    intro k vs h
    induction h with
    | nil => rfl
    | cons _ _ ih => simp [ih]
  exact this hi
theorem sort_len {pins : List (Addr × Obj)} {σ : L2.St} {H : Hp} {s : Shared} {us : List Value} {vs : List V} {Q : VK} (hc : X.calm = true) (hu : X.A.units + 64 < cLine) (I : Inv X pins σ H s) (r : Vals vs us) (h : rSortLen X.K vs H Q) :
    wpAny (model X.prog X.w) X.A (call (.builtin "sorted") us [(Str.ofString "key", .builtin "len")]) (EP X pins σ Q) X.xe s := by
  obtain ⟨a, L, rfl, hq, hk, hs, q⟩ := h
  rw [Vals.ref1 r]
  obtain ⟨its, rv, ⟨o, ho, hcl, n, hd⟩, hz⟩ := I.tuple hq
  have e := refs_of_valsU rv
  subst e
  have hz' : L.length ≤ sizeLine := by rw [List.length_map] at hz; exact hz
  have hU : ∀ p ∈ L, IsU X.prog X.w s.heap p.2 p.1 := fun p hp => Inv.isU I (hk p hp)
  have hsz : ∀ p ∈ L, p.2.length ≤ sizeLine := fun p hp => by
    obtain ⟨_, _, _, hz2⟩ := I.tuple (hk p hp)
    rwa [List.length_map] at hz2
  refine sorted_from (R := fun us => us = L.map fun p => Value.ref p.1) (ksk_s1 _ _) (fun _ => ksk_l1 _ _) (fun E' Q' hq => ?_) fun s' us k hz2 hR E' => ?_
  · refine wpAny_collect_seq a (.inr rfl) ho hcl hd (fun h' k => ?_) (by simpa using hz')
    exact hq _ _ ⟨k, rfl, rfl⟩ (by simpa using hz') (by simp)
  · subst hR
    rw [ksk_t4]
    have hoL : (s'.heap.push (seqObj "list" (L.map fun p => Value.ref p.1).toArray 0)).get? s'.heap.objs.size = some (seqObj "list" (L.map fun p => Value.ref p.1).toArray 0) := Heap.get?_push_size _ rfl
    have ea : EachIs (fun v p => v = Value.ref p.1) (L.map fun p => Value.ref p.1) L := each_refs (h := s.heap) L
    have up : ∀ b o, s.heap.get? b = some o → b ≠ s'.heap.objs.size ∧ (s'.heap.push (seqObj "list" (L.map fun p => Value.ref p.1).toArray 0)).get? b = some o := fun b o q => ⟨Nat.ne_of_lt (Heap.lt_size (k.1 b o q)), Heap.get?_push_of_some _ (k.1 b o q)⟩
    have hal : AllAlike (L.map fun p => PyData.int (p.2.length : Nat)) := fun d hd d' hd' => by
      obtain ⟨x, _, rfl⟩ := List.mem_map.mp hd
      obtain ⟨y, _, rfl⟩ := List.mem_map.mp hd'
      simp [alike]
    refine keyH_tree (kz := L.map fun p => PyData.int (p.2.length : Nat)) (s := { s' with heap := s'.heap.push (seqObj "list" (L.map fun p => Value.ref p.1).toArray 0) }) hoL (by simp) (by simpa using hz') hal (.inr fun d hd => ?_) (fun d hd => ?_)
      (keyH_turns (s := { s' with heap := s'.heap.push (seqObj "list" (L.map fun p => Value.ref p.1).toArray 0) }) (k := fun p : Addr × List Str => PyData.int (p.2.length : Nat)) ea fun v x hR hx h tk kp => ?_) fun h' tk out c kp hD ko => ⟨rfl, ?_⟩
    · obtain ⟨x, _, rfl⟩ := List.mem_map.mp hd
      exact ⟨(fun z => nomatch z), (fun xs z => nomatch z)⟩
    · obtain ⟨x, _, rfl⟩ := List.mem_map.mp hd
      show X.A.in1.in1.units + 0 < cLine
      simp; omega
    · subst hR
      have hU2 : IsU X.prog X.w h x.2 x.1 := isU_keep (hU x hx) fun b o q => kp b o (up b o q).1 (up b o q).2
      obtain ⟨is, hp, hl⟩ := isU_tup hU2
      have h63 := line63
      have hxs := hsz x hx
      refine len_tuple (s := { s' with heap := h, toks := tk }) hp (by simp only [List.size_toArray]; omega) ?_
      refine ⟨h, tk + 1 + 1, rfl, fun b o q => q, ?_⟩
      rw [show ((is.toArray.size : Nat) : Int) = (x.2.length : Nat) by simp [hl]]
      exact .int _ _
    · have eo := keyedOut_each (fun p : Addr × List Str => PyData.int (p.2.length : Nat)) ko ea
      have hle : ∀ x y : Addr × List Str, dataLe false (fun p : Addr × List Str => PyData.int (p.2.length : Nat)) x y = !decide ((y.2.length : Int) < (x.2.length : Int)) := fun x y => by
        show (!dataLt (.int (y.2.length : Nat)) (.int (x.2.length : Nat))) = _
        rw [dataLt_int]
      rw [List.mergeSort_of_pairwise (List.Pairwise.imp (fun {x y} h => by rw [hle]; simp; omega) hs)] at eo
      have eout := refs_each eo
      rw [eout] at hD
      have kk : Keeps s { s' with heap := h', toks := tk } := ⟨fun b o q => kp b o (up b o q).1 (up b o q).2, k.2.1, k.2.2⟩
      exact ⟨.ref s'.heap.objs.size, _, Inv.more I (s' := { s' with heap := h', toks := tk }) (o := .lst (L.map fun p => V.ref p.1)) kk k.new ⟨by rw [List.length_map]; exact hz', _, c, vals_of_refsU L, hD⟩, rfl, q _ (hok_free I.hok k.new)⟩
theorem pe_sortLen {p p2 kpos pos : Pos} {e : Expr} {te : TE} (hu : X.A.units + 64 < cLine) (hc : X.calm = true) (hg : Gl X "sorted") (hm : X.mg "sorted" = none) (hg2 : Gl X "len") (hm2 : X.mg "len" = none) (ha : PE X e te)
    (he : backTo pos (starEach [e] X.env) = (false, eval e X.env) :: backTo pos (starEach [] X.env) := by rfl) (hpl : (backTo pos (starEach [e] X.env)).any (·.1) = false := by rfl)
    (ha1 : starEach [e] X.env = (false, eval e X.env) :: starEach [] X.env := by rfl) :
    PE X (.Call (.Name "sorted" p) [e] [⟨some (Str.ofString "key"), .Name "len" p2, kpos⟩] pos) (tCB (rSortLen X.K) (tCons te tNil)) := by
  refine ⟨fun pins s σ H Q I h => ?_⟩
  refine wpAny_Call_Name_kw (ld_blt I hg hm boot_sorted ?_ (by decide) (by decide))
  refine PyProof.Rows.callWith_kw (thn ((pa_cons ha pa_nil ha1).run pos pins s σ H _ I h) fun us s1 ⟨vs, H1, I1, r1, q1⟩ => ?_) he hpl (by rfl) (by rfl)
  show wpAny _ _ (evalAll [(do let v ← eval (.Name "len" p2) X.env; standAt pos; pure v)]) _ _ s1
  refine wpAny_evalAll_cons (wpAny_bind (ld_blt I1 hg2 hm2 PySem.boot_len ?_ (by decide) (by decide)))
  refine wpAny_bind (wpAny_standAt (wpAny_pure (wpAny_evalAll_nil ?_)))
  exact sort_len hc hu I1 r1 q1
theorem k_sortLen (K : PySem.W.Frag) {p p2 kpos pos : Pos} {e : Expr} {te : TE} (hu : X.A.units + 64 < cLine) (hg : Gl X "sorted") (hm : X.mg "sorted" = none) (hg2 : Gl X "len") (hm2 : X.mg "len" = none) (ha : PE X e te) (hK : X.K = K := by rfl) (hc : X.calm = true := by rfl)
    (he : backTo pos (starEach [e] X.env) = (false, eval e X.env) :: backTo pos (starEach [] X.env) := by rfl) (hpl : (backTo pos (starEach [e] X.env)).any (·.1) = false := by rfl)
    (ha1 : starEach [e] X.env = (false, eval e X.env) :: starEach [] X.env := by rfl) :
    PE X (.Call (.Name "sorted" p) [e] [⟨some (Str.ofString "key"), .Name "len" p2, kpos⟩] pos) (tCB (rSortLen K) (tCons te tNil)) := hK ▸ pe_sortLen hu hc hg hm hg2 hm2 ha he hpl ha1
end
end UpS

namespace Up
open PySem PySem.Spec PyProof.Rows L2 UpS
theorem rl_sortLen {K : PySem.W.Frag} {ts : T2} (hs : ts.Pairwise fun a b => a.length ≤ b.length) : RL (rSortLen K) [tT ts] (ts.map tS) := fun G vs h H e Q q => by
  cases h with
  | cons h t =>
    cases t
    cases h with
    | tup ha rs =>
      obtain ⟨L, rfl, h2, h3⟩ := rs.t1s
      refine ⟨_, L, rfl, sqT_of e ha, fun p hp => sqT_of e (h3 p hp), ?_, fun p hp => q p _ G _ ((Gr.refl e).put (.inl hp) (e.free hp)) hp (e.free hp) upd_same (by rw [← h2]; exact Rps.of_t1s h3)⟩
      rw [← h2] at hs
      exact (List.pairwise_map (f := fun p : Addr × List Str => p.2) (R := fun a b : List Str => a.length ≤ b.length)).mp hs
end Up

/-! text UpTD -/
set_option Elab.async false
set_option linter.all false
set_option maxRecDepth 100000
set_option maxHeartbeats 4000000
/-! tuple(d), d a dict with tuple keys -/
namespace UpS
open PySem PySem.Spec PySem.W PyProof.Rows L2 Up
section
variable {prog : Program} {w : World} {A : Around} {E : Value → Shared → Prop} {s : Shared}
theorem code_tuple_new_dict {d : Addr} {es : Array DictEntry} {ep : Nat} {Q₁ : Value → Shared → Prop} (hh : A.handled = none) (hr : s.heap.DictRaw d es ep) (lo : (d == sysModules) = false) (hlen : es.size ≤ sizeLine)
    (h : ∀ (h' : Heap) (tk : Nat) (acc : Array Value), (∀ b o, s.heap.get? b = some o → h'.get? b = some o) → ItemsOf (fun i v => ∃ hi : i < es.size, v = es[i].key) acc es.size →
      Q₁ (.ref h'.objs.size) { s with heap := h'.push { cls := .type "tuple", data := .seq acc }, toks := tk }) :
    codeAny (model prog w) A (.call (.builtin "tuple.__new__") ⟨[.type "tuple", .ref d], []⟩) (wants Q₁ E) s := by
  refine codeAny_of_tree ?_
  show wpAny _ A.in1 (do checkBuiltinCall "tuple.__new__" ⟨[.type "tuple", .ref d], []⟩; again (.builtin "tuple.__new__" ⟨[.type "tuple", .ref d], []⟩)) _ _ s
  refine wpAny_bind (wpAny_of_eq (F.newCall_tuple_1 _) (wpAny_pure ⟨plainId_quiet F.plain_tuple_new _, codeAny_builtin F.entry_tuple_new ?_⟩))
  rw [Around.under_plainId F.plain_tuple_new _]
  have hsub := sub_tuple_self
  have hinit := init_tuple_lookup
  have hmh := madeHere_tuple
  have hTI : s.TypeIs (.ref d) "dict" := hr.typeIs
  have hh1 : A.in1.handled = none := hh
  wp_walk using wpAny_typeOf hTI, kdu_collect (A := A.in1) (KdlSrc.rawDict (prog := prog) (w := w) (es := es) (ep := ep) lo) hh1 hr hlen
  intro h' tk acc hk hacc
  show wpAny _ _ (Builtin.Tuple.tupleExact acc.toList.toArray >>= fun v => ret v) _ _ _
  unfold Builtin.Tuple.tupleExact
  refine wpAny_bind (wpAny_newObj_type ?_ (by show acc.toList.toArray.size ≤ sizeLine; simp only [Array.toArray_toList]; rw [hacc.1]; exact hlen))
  refine wpAny_pure ?_
  have e : acc.toList.toArray = acc := by simp
  rw [e]
  exact h h' tk acc hk hacc
theorem call_tuple_dict {d : Addr} {es : Array DictEntry} {ep : Nat} {Q : Value → Shared → Prop} (hh : A.handled = none) (hr : s.heap.DictRaw d es ep) (lo : (d == sysModules) = false) (hlen : es.size ≤ sizeLine)
    (hQ : ∀ (h' : Heap) (tk : Nat) (acc : Array Value), (∀ b o, s.heap.get? b = some o → h'.get? b = some o) → ItemsOf (fun i v => ∃ hi : i < es.size, v = es[i].key) acc es.size →
      Q (.ref h'.objs.size) { s with heap := h'.push { cls := .type "tuple", data := .seq acc }, toks := tk }) :
    wpAny (model prog w) A (call (.type "tuple") [.ref d]) Q E s := by
  refine callType_codes (Q₁ := fun obj s₁ => s₁.TypeIs obj "tuple" ∧ Q obj s₁) F.called_tuple (F.typeCall_tuple_1 _) F.entry_object_init
    (code_tuple_new_dict (A := A.in1) hh hr lo hlen fun h' tk acc hk hacc => ⟨⟨_, Heap.get?_push_size _ rfl, rfl⟩, hQ h' tk acc hk hacc⟩) fun obj s₁ h₁ => ?_
  exact ⟨h₁.1, F.args_object_init_2 obj _, object_init_meets F.called_tuple.init.lookup F.called_tuple.made (by decide) prog w A.in1 _ s₁ ⟨h₁.1, rfl, h₁.2⟩⟩
end
section
variable {X : Cx}
/-- tuple(d) -/
def rTupD : List V → Hp → VK → Prop := fun vs H Q => ∃ (a : Addr) (kvs : List (List Key × V)) (ks : List (List Str)), vs = [V.ref a] ∧ Rd H a (.dT kvs) ∧ kvs.map (·.1) = ks.map (List.map Sum.inr) ∧ ks.length ≤ 100000 ∧
  ∀ (p : Addr) (L : List (Addr × List Str)), L.map (·.2) = ks → (∀ p ∈ L, H p.1 = some (.tup (p.2.map V.str))) → H p = none → Q (.ref p) (upd H p (.tup (L.map fun p => V.ref p.1)))
theorem cr_tupD (hc : X.calm = true) : CallR X (.type "tuple") rTupD := by
  intro pins s σ H vs us Q I r h
  obtain ⟨a, kvs, ks, rfl, hd, e, hl, q⟩ := h
  rw [Vals.ref1 r]
  obtain ⟨hz, lo, xs, hp, o, es, ep, ho, hx, hdt, hes, hnd⟩ := hd.ok I.hok
  obtain ⟨L, l1, l2, l3⟩ := keys_at hp e
  have hraw : s.heap.DictRaw a es ep := ⟨o, ho, hx, hdt⟩
  have hxl : xs.length = ks.length := by
    have h1 := congrArg List.length l2
    have h2 := congrArg List.length l1
    rw [List.length_map, List.length_map] at h1
    rw [List.length_map] at h2
    omega
  have hsz : es.size = xs.length := by
    have := congrArg List.length hes
    rw [List.length_map, Array.length_toList] at this
    exact this
  have hLl : L.length = ks.length := by rw [← l1, List.length_map]
  refine call_tuple_dict (I.ok.hd hc) hraw lo (sz_of (by omega)) fun h' tk acc k hi => ?_
  have eo : acc.toList = L.map fun p => Value.ref p.1 := by
    refine items_out (Pv := fun i v => ∃ hi : i < es.size, v = es[i].key) (out := L.map fun p => Value.ref p.1) (by rw [List.length_map, hLl, ← hxl, ← hsz]; exact hi) fun j v ⟨hj, e⟩ => ?_
    have e1 : (es.toList.map (·.key))[j]? = some v := by
      rw [List.getElem?_map, Array.getElem?_toList, Array.getElem?_eq_getElem hj, e]; rfl
    have e2 : es.toList.map (·.key) = L.map fun p => Value.ref p.1 := by
      rw [hes, List.map_map]
      have : xs.map (fun q => Value.ref q.2.1) = L.map fun p => Value.ref p.1 := by
        have z := congrArg (List.map Value.ref) l2
        rw [List.map_map, List.map_map] at z
        exact z.symm
      rw [← this]
      rfl
    rw [← e2]; exact e1
  have hn : s.heap.get? h'.objs.size = none := by
    cases q : s.heap.get? h'.objs.size with
    | none => rfl
    | some o => exact absurd (Heap.lt_size (k _ o q)) (Nat.lt_irrefl _)
  have rv : Vals (L.map fun p => V.ref p.1) acc.toList := by rw [eo]; exact vals_of_refsU L
  refine ⟨.ref h'.objs.size, _, I.laidN (t' := tk) (o := .tup (L.map fun p => V.ref p.1)) (fun b o e => Heap.get?_push_of_some _ (k b o e)) hn (hok_free I.hok hn) ⟨by rw [List.length_map]; exact sz_of (by omega), acc.toList, rv, ?_⟩, rfl, q _ L l1 l3 (hok_free I.hok hn)⟩
  have ea : acc.toList.toArray = acc := by simp
  rw [ea]
  exact ⟨_, Heap.get?_push_size _ rfl, rfl, _, rfl⟩
theorem k_tupD (hc : X.calm = true := by rfl) : CallR X (.type "tuple") rTupD := cr_tupD hc
end
end UpS
namespace Up
open PySem PySem.Spec PyProof.Rows L2 UpS
theorem gd_tupDict {te : TE} {σ : L2.St} {G : Hp} {kvs : List (T1 × D)} (h : GD te σ G (.dt (kvs.map fun p => (p.1.map Sum.inr, p.2)))) (hl : kvs.length ≤ 100000) : GD (tCB rTupD (tCons te tNil)) σ G (.tup ((kvs.map (·.1)).map tS)) := fun H e Q q =>
  h H e _ fun v G1 H1 g r => by
    cases r with
    | @dt a ws _ ha rs =>
      have hk := rpt_keys rs
      rw [List.map_map] at hk
      refine ⟨a, ws, kvs.map (·.1), rfl, g.gh.le.rt _ _ ha, by rw [hk, List.map_map]; rfl, by rw [List.length_map]; exact hl, fun p L hL hm hp => ?_⟩
      obtain ⟨G2, g2, e2, k2⟩ := g.sealTs (L.map fun u => (u.1, u.2.map V.str)) fun u hu => by
        obtain ⟨u', hu', rfl⟩ := List.mem_map.mp hu
        exact hm u' hu'
      refine q _ _ _ (g2.data hp) (.tup upd_same ?_)
      rw [← hL]
      exact Rps.mono (Rps.of_t1s fun u hu => k2 (u.1, u.2.map V.str) (List.mem_map.mpr ⟨u, hu, rfl⟩)) (Ex.new (g2.gh.free hp))
end Up

/-! text Up7 -/
set_option Elab.async false
set_option linter.all false
set_option maxRecDepth 100000
set_option maxHeartbeats 4000000
/-! ends_in, ends_of_paths, all_paths -/
namespace Up
open PySem PySem.Spec PyProof.Rows L2 UpS
def withoutM (a : T1) (u : Str) : T1 := a.filter fun o => !decide (o = u)
def endsP (ks : T2) (a : T1) (u : Str) : Bool := decide (withoutM a u ∈ ks)
def endsIn (ks : T2) (a : T1) : T1 := a.filter (endsP ks a)
def endsOf (ks : T2) (t : T1) : Option (T1 × Str) := match endsIn ks t with
  | [u] => some (t, u)
  | _ => none
def endsPaths (ks : T2) : List (T1 × Str) := (isort ltT ks).filterMap (endsOf ks)
def standK (b : Bk) : T2 := (standM b).map (·.1)
def allPaths (b : Bk) : T2 := (endsPaths (standK b)).map (·.1)
def epD (l : List (T1 × Str)) : List (T1 × D) := l.map fun p => (p.1, .str p.2)
theorem epD_keys (l : List (T1 × Str)) : (epD l).map (·.1) = l.map (·.1) := by unfold epD; rw [List.map_map]; rfl
theorem sLoop_inv {b : Bk} : ∀ (m : Nat) (st : SSt), SInv b st → SInv b (sLoop b m st, [])
  | 0, st, I => ⟨I.nd, I.srt, I.len, fun t h => nomatch h⟩
  | m + 1, (f, fr), I => by
    rcases List.eq_nil_or_concat fr with rfl | ⟨fr0, here, rfl⟩
    · exact ⟨I.nd, I.srt, I.len, fun t h => nomatch h⟩
    · simp only [List.concat_eq_append] at I ⊢
      unfold sLoop
      simp only [List.getLast?_concat, List.dropLast_concat]
      have hh : here ∈ f.map (·.1) := I.fr here (List.mem_append_right _ (List.mem_singleton.mpr rfl))
      have I0 : SInv b (f, fr0) := ⟨I.nd, I.srt, I.len, fun t ht => I.fr t (List.mem_append_left _ ht)⟩
      have key : ∀ (l : T1) (st : SSt), (∀ u ∈ l, u ∈ names b) → SInv b st → here ∈ st.1.map (·.1) → SInv b (l.foldl (sStep b here) st) := by
        intro l
        induction l with
        | nil => intro st _ I _; exact I
        | cons u l ih =>
          intro st hl I hh
          obtain ⟨i1, i2, _⟩ := I.step hh (hl u List.mem_cons_self)
          exact ih _ (fun v hv => hl v (List.mem_cons_of_mem _ hv)) i1 i2
      exact sLoop_inv m _ (key _ _ (fun _ h => h) I0 hh)
theorem stand_inv (b : Bk) : SInv b (standM b, []) := by
  refine sLoop_inv _ _ ⟨List.nodup_cons.mpr ⟨List.not_mem_nil, List.nodup_nil⟩, fun p hp => ?_, fun p hp => ?_, fun t ht => ht⟩
  · rw [List.mem_singleton.mp hp]; exact ⟨List.Pairwise.nil, fun x hx => nomatch hx⟩
  · rw [List.mem_singleton.mp hp]; exact Nat.le_refl _
theorem standK_few (b : Bk) (h : b.length ≤ 10) : (standM b).length ≤ 1024 := Nat.le_trans (stand_inv b).few (Nat.le_trans (Nat.pow_le_pow_right (by decide) h) (by decide))
theorem standK_len {b : Bk} {t : T1} (h : t ∈ standK b) : t.length ≤ b.length := (stand_inv b).key_len h
section
variable {P : Program} {w : World} {K : PySem.W.Frag} {mg : Str → Option Value} {base : Heap}
def fEndsIn : List D → D → Prop := fun ds d => ∃ f x a, ds = [.dt (dtK f), x] ∧ IsT1 x a ∧ a.length ≤ 1000 ∧ d = .lst ((endsIn (f.map (·.1)) a).map .str)
theorem ok_ends_in (M : Mo mg) (h : Df K mg "ends_in" s_ends_in p_ends_in) (hW : At P w K mg base "without" s_without p_without 1 (spD 2 fWithout)) : At P w K mg base "ends_in" s_ends_in p_ends_in 2 (spD 2 fEndsIn) := by
  obtain ⟨f_without, fd_without, F_without, b_without, g_without, G_without⟩ := hW
  obtain ⟨f, fd, F, b, g⟩ := h
  refine ⟨f, fd, F, b, g, F.ok c_ends_in (fun vs H Q E h => h.1) (fun cdv A outer s H vs Q E hr h => ?_)⟩
  obtain ⟨_, ds, d, G, e, r, ⟨fo, x, a, rfl, ha, hl, rfl⟩, q⟩ := h
  obtain ⟨v0, v1, rfl, r0, r1⟩ := r.i2
  refine ⟨_, (pss_one
    (ps_ret (pe_lc (own := [("unit", 2)]) rfl c_ends_in.nd (k_seq K (pv 1)) (blkOk_by (by kernel_rfl)) (fun _ _ _ _ _ => (pg_name (i := 2) c_ends_in.nd rfl (by first | exact .inl rfl | exact .inr rfl))) (fun _ _ _ _ _ => (pts_one (pt_cmp (pc_din (hu1 hr) (pe_call G_without (hr.mono (by omega)) (by rfl) g_without F_without.kp b_without .nil pass0 (pa_cons (pv 1) (pa_cons (pv 2) pa_nil))) (pv 0))))) (fun _ _ _ _ _ => (pv 2))))), ?_⟩
  exact (gl_lc1 (xs := a) (e := D.str) (p := endsP (fo.map Prod.fst) a) (f := fun u => D.str u) (gi_T1 (gd_var (i := 1) rfl r1) ha) (by omega) (fun _ => rfl)
    (fun u hu G' v e' rv => gt_B (gd_dinT (f := fo) (t := withoutM a u) (gd_call (ga_two (gd_var (i := 1) rfl (r1.mono e')) (gd_var (i := 2) rfl rv)) rfl ⟨x, a, u, rfl, ha, hl, rfl⟩) (gd_var (i := 0) rfl (r0.mono e'))))
    (fun u hu _ G' v e' rv => gd_var rfl rv)).gd H e Q q
def fEnds : List D → D → Prop := fun ds d => ∃ x b, ds = [x] ∧ IsBk x b ∧ Sm b ∧ d = .dt (dtK (epD (endsPaths (standK b))))
theorem ok_ends_of_paths (M : Mo mg) (h : Df K mg "ends_of_paths" s_ends_of_paths p_ends_of_paths) (hS : At P w K mg base "standings_of" s_standings_of p_standings_of 5 (spD 1 fStand)) (hE : At P w K mg base "ends_in" s_ends_in p_ends_in 2 (spD 2 fEndsIn)) :
    At P w K mg base "ends_of_paths" s_ends_of_paths p_ends_of_paths 6 (spD 1 fEnds) := by
  obtain ⟨f_standings_of, fd_standings_of, F_standings_of, b_standings_of, g_standings_of, G_standings_of⟩ := hS
  obtain ⟨f_ends_in, fd_ends_in, F_ends_in, b_ends_in, g_ends_in, G_ends_in⟩ := hE
  obtain ⟨f, fd, F, b, g⟩ := h
  refine ⟨f, fd, F, b, g, F.ok c_ends_of_paths (fun vs H Q E h => h.1) (fun cdv A outer s H vs Q E hr h => ?_)⟩
  obtain ⟨_, ds, d, G, e, r, ⟨x, bk, rfl, hb, S, rfl⟩, q⟩ := h
  obtain ⟨v0, rfl, rx⟩ := r.i1
  refine ⟨_, (pss_cons
    (ps_par (i := 1) (j := 2) rfl c_ends_of_paths.nd rfl rfl (by decide) rfl rfl (pa_cons (pe_call G_standings_of (hr.mono (by omega)) (by rfl) g_standings_of F_standings_of.kp b_standings_of .nil pass0 (pa_cons (pv 0) pa_nil)) (pa_cons pe_dnewT pa_nil)) (by rfl))
    (pss_cons
    (ps_for PassesOwn.never rfl (k_seq K (pe_callB (k_sorted K w hr.units) (by rfl) M.sorted_ PyProof.Rows.boot_sorted (pa_cons (pv 1) pa_nil))) (pg_name (i := 3) c_ends_of_paths.nd rfl (by first | exact .inl rfl | exact .inr rfl)) (pss_cons
        (ps_set (i := 4) c_ends_of_paths.nd rfl (by first | exact .inl rfl | exact .inr rfl) (pe_call G_ends_in (hr.mono (by omega)) (by rfl) g_ends_in F_ends_in.kp b_ends_in .nil pass0 (pa_cons (pv 1) (pa_cons (pv 3) pa_nil))))
        (pss_one
        (ps_if (pt_cmpR op_eq (pe_callB (k_len K) (by rfl) M.len_ PySem.boot_len (pa_cons (pv 4) pa_nil)) pe_int (nomark _)) (pss_one
            (ps_dput (hu1 hr) (pv 2) (pv 3) (pe_ix (k_ixL K) (pv 4) pe_int (fun _ _ => rfl)) rfl)) pss_nil))))
    (pss_one
    (ps_ret (pv 2))))), ?_⟩
  have few := standK_few bk S.len
  have ks : (foD (standM bk)).map (·.1) = standK bk := foD_keys _
  refine gd_call (ga_one (gd_var (i := 0) rfl rx)) rfl ⟨x, bk, rfl, hb, S, rfl⟩ H e _ fun v1 G1 H1 g1 r1 => ?_
  intro F0 hF0
  have gF := g1.gh.free hF0
  have hFH := g1.free hF0
  have gg1 := g1.put (o := .dT []) (.inl hFH) gF
  refine ⟨_, _, rfl, ?_⟩
  refine sd_for (gi_seqL (GL.gd (gl_sortDict (kvs := foD (standM bk)) (gd_var (i := 1) rfl r1) (by unfold foD; rw [List.length_map]; omega)))) gg1.gh fun G2 H2 g2 => ?_
  rw [ks]
  have gg2 := gg1.trans g2
  refine ⟨fun i σ' G' H' => ∃ ws h3 h4, σ' = [some v0, some v1, some (.ref F0), h3, h4] ∧ Gr N0 G H G' H' ∧ Ex G2 G' ∧ G' F0 = none ∧ H' F0 = some (.dT ws) ∧ Rpt G' (dtK (epD (((isort ltT (standK bk)).take i).filterMap (endsOf (standK bk))))) ws,
    ⟨[], none, none, rfl, gg2, .refl _, g2.off gF (o := .dT []) upd_same, g2.at0 upd_same, .nil⟩, ?_, ?_, ?_⟩
  · rintro i σ' G' H' ⟨ws, h3, h4, rfl, gg, e2, _⟩
    exact ⟨e2, gg.gh⟩
  · rintro i dd σ' G' H' v3 G3 H3 hdd ⟨ws, h3, h4, rfl, gg, e2, gF2, hF2, rw2⟩ g3 r3
    obtain ⟨t, ht, rfl⟩ : ∃ t, (isort ltT (standK bk))[i]? = some t ∧ dd = tS t := by
      rw [List.getElem?_map] at hdd
      cases q9 : (isort ltT (standK bk))[i]? with
      | none => rw [q9] at hdd; cases hdd
      | some t => rw [q9] at hdd; cases hdd; exact ⟨t, rfl, rfl⟩
    have htm : t ∈ standK bk := mem_isort.mp (List.mem_of_getElem? ht)
    have htl := standK_len htm
    have len := S.len
    refine sq_asg (gd_call (ga_two (gd_var (i := 1) rfl (r1.mono (g2.gg.trans (e2.trans g3.gg)))) (gd_var (i := 3) rfl r3)) rfl ⟨foD (standM bk), _, t, rfl, .inl rfl, by omega, rfl⟩) g3.gh fun v4 G4 H4 g4 r4 => ?_
    rw [ks] at r4
    refine s_if (gt_B (gd_op (gd_cb (ga_one (gd_var (i := 4) rfl r4)) rb_lenL) (gd_c (.int 1)) ro_eqI)) g4.gh (fun h1 G5 H5 g5 => ?_) fun h1 G5 H5 g5 => ?_
    · rw [List.length_map, decide_eq_true_eq] at h1
      have h1' : (endsIn (standK bk) t).length = 1 := by omega
      obtain ⟨u, hu⟩ := List.length_eq_one_iff.mp h1'
      have g35 := g3.trans (g4.trans g5)
      have eo : endsOf (standK bk) t = some (t, u) := by unfold endsOf; rw [hu]
      have r4' := r4.mono g5.gg
      rw [hu] at r4'
      have wl : ws.length ≤ 1024 := by
        have h2 := rw2.len
        have h3 : (((isort ltT (standK bk)).take i).filterMap (endsOf (standK bk))).length ≤ (isort ltT (standK bk)).length := Nat.le_trans (List.length_filterMap_le _ _) (by rw [List.length_take]; exact Nat.min_le_right _ _)
        unfold dtK epD at h2
        rw [List.length_map, List.length_map] at h2
        rw [len_isort] at h3
        unfold standK at h3 h2
        rw [List.length_map] at h3
        omega
      refine s_dputT (i := 2) (t := t) rfl (gd_op (gd_var (i := 4) rfl r4') (gd_c (.int 0)) (ro_ixL (d := .str u) (atI0 _ _))) (gd_var (i := 3) rfl (r3.mono (g4.gg.trans g5.gg))) g5.gh (g35.at0 hF2) (by omega) fun v6 G6 H6 g6 r6 hF6 => ?_
      have g36 := g35.trans g6
      have hnew : t ∉ ((isort ltT (standK bk)).take i) := fun hm => by
        have nd : (isort ltT (standK bk)).Nodup := (isort_perm _).nodup_iff.mpr (stand_inv bk).nd
        obtain ⟨j, hj, ej⟩ := List.mem_take_iff_getElem.mp hm
        obtain ⟨hi', ei⟩ := List.getElem?_eq_some_iff.mp ht
        have := (List.getElem_inj nd).mp (ej.trans ei.symm)
        omega
      have hnk : t ∉ (epD (((isort ltT (standK bk)).take i).filterMap (endsOf (standK bk)))).map (·.1) := fun hm => by
        rw [epD_keys] at hm
        obtain ⟨p, hp, e1⟩ := List.mem_map.mp hm
        obtain ⟨t', ht', e2⟩ := List.mem_filterMap.mp hp
        unfold endsOf at e2
        split at e2
        · cases e2; rw [← e1] at hnew; exact hnew ht'
        · cases e2
      rw [putK_new _ (rpt_none (rw2.mono g36.gg) hnk)]
      refine ⟨G6, _, _, _, rfl, (gg.trans g36).put (.inl hFH) (g36.off gF2 hF2), e2.trans g36.gg, g36.off gF2 hF2, upd_same, ?_⟩
      rw [take_at ht, List.filterMap_append, List.filterMap_cons_some eo]
      have := rpt_snoc (k := t.map Sum.inr) (rw2.mono g36.gg) r6
      unfold dtK epD at this ⊢
      rw [List.map_append, List.map_append]
      exact this
    · rw [List.length_map, decide_eq_false_iff_not] at h1
      have g35 := g3.trans (g4.trans g5)
      have eo : endsOf (standK bk) t = none := by
        unfold endsOf
        split
        · rename_i u hu
          rw [hu] at h1; simp at h1
        · rfl
      refine ⟨G5, ws, _, _, rfl, gg.trans g35, e2.trans g35.gg, g35.off gF2 hF2, g35.at0 hF2, ?_⟩
      rw [take_at ht, List.filterMap_append, List.filterMap_cons_none eo, List.filterMap_nil, List.append_nil]
      exact rw2.mono g35.gg
  · rintro σ' G' H' ⟨ws, h3, h4, rfl, gg, e2, gF2, hF2, rw2⟩
    rw [List.length_map, List.take_length] at rw2
    exact ⟨_, rfl, q (.ref F0) _ H' (gg.seal hFH hF2) (.dt (.inl upd_same) (rw2.mono (Ex.new gF2)))⟩
def fAll : List D → D → Prop := fun ds d => ∃ x b, ds = [x] ∧ IsBk x b ∧ Sm b ∧ d = tT (allPaths b)
theorem ends_few {b : Bk} (S : b.length ≤ 10) : (endsPaths (standK b)).length ≤ 1024 := by
  have h3 : (endsPaths (standK b)).length ≤ (isort ltT (standK b)).length := List.length_filterMap_le _ _
  have := standK_few b S
  rw [len_isort] at h3
  unfold standK at h3 ⊢
  rw [List.length_map] at h3
  omega
theorem ok_all_paths (M : Mo mg) (h : Df K mg "all_paths" s_all_paths p_all_paths) (hE : At P w K mg base "ends_of_paths" s_ends_of_paths p_ends_of_paths 6 (spD 1 fEnds)) : At P w K mg base "all_paths" s_all_paths p_all_paths 7 (spD 1 fAll) := by
  obtain ⟨f_ends_of_paths, fd_ends_of_paths, F_ends_of_paths, b_ends_of_paths, g_ends_of_paths, G_ends_of_paths⟩ := hE
  obtain ⟨f, fd, F, b, g⟩ := h
  refine ⟨f, fd, F, b, g, F.ok c_all_paths (fun vs H Q E h => h.1) (fun cdv A outer s H vs Q E hr h => ?_)⟩
  obtain ⟨_, ds, d, G, e, r, ⟨x, bk, rfl, hb, S, rfl⟩, q⟩ := h
  obtain ⟨v0, rfl, rx⟩ := r.i1
  refine ⟨_, (pss_one
    (ps_ret (pe_callTy k_tupD (by rfl) M.tuple_ PyProof.Rows.boot_tuple (pa_cons (pe_call G_ends_of_paths (hr.mono (by omega)) (by rfl) g_ends_of_paths F_ends_of_paths.kp b_ends_of_paths .nil pass0 (pa_cons (pv 0) pa_nil)) pa_nil)))), ?_⟩
  have few := ends_few S.len
  have := gd_tupDict (kvs := epD (endsPaths (standK bk))) (gd_call (E := E) (F := fEnds) (ga_one (gd_var (σ := start n_all_paths [v0]) (i := 0) rfl rx)) rfl ⟨x, bk, rfl, hb, S, rfl⟩) (by unfold epD; rw [List.length_map]; omega)
  rw [epD_keys] at this
  exact this H e Q q
end
end Up

/-! text UpDB -/
set_option Elab.async false
set_option linter.all false
set_option maxRecDepth 100000
set_option maxHeartbeats 4000000
/-! a book: a tuple that is known to the object, or a list; dict(book) -/
namespace UpS
open PySem PySem.Spec PyProof.Rows L2 Up
section
variable {X : Cx}
/-- (a, b, ..), known to the object -/
def tTupF (t : TA) : TE := fun σ H Q => t σ H fun xs H1 => xs.length ≤ sizeLine ∧ ∀ (o : Obj) p, o.dict = none → H1 p = none → Q (.ref p) (upd H1 p (.frz o (.tup xs)))
theorem pe_tupF {x1} {es : List Expr} {t : TA} {pos : Pos} (h : PA X es t) : PE X (.Tuple es x1 pos) (tTupF t) := by
  refine ⟨fun pins s σ H Q I hq => ?_⟩
  refine wpAny_Tuple_spliced (thn (h.run pos pins s σ H _ I hq) fun us s1 ⟨xs, H1, I1, r, z, q⟩ => ⟨by rw [← r.length]; exact z, ?_⟩)
  have hf : H1 s1.heap.objs.size = none := I1.hok.fresh (Nat.le_refl _)
  refine ⟨.ref s1.heap.objs.size, upd H1 s1.heap.objs.size (.frz { cls := .type "tuple", data := .seq us.toArray } (.tup xs)), I1.laid (t' := s1.toks) (fun b u e => Heap.get?_push_of_some _ e) (Nat.le_refl _) ?_, rfl, q _ _ rfl hf⟩
  exact ⟨Heap.get?_push_size _ rfl, z, us, r, ⟨_, Heap.get?_push_size _ rfl, rfl, _, rfl⟩⟩
/-- tuple(xs) of a list, known to the object -/
def rTupF (K : PySem.W.Frag) : List V → Hp → VK → Prop := fun xs H Q => ∃ p ys, xs = [.ref p] ∧ SqL K H p ys ∧ ∀ (o : Obj) l, o.dict = none → H l = none → Q (.ref l) (upd H l (.frz o (.tup ys)))
theorem call_tupF : CallR X (.type "tuple") (rTupF X.K) := by
  intro pins s σ H xs us Q I r h
  obtain ⟨p, ys, rfl, hq, q⟩ := h
  obtain ⟨u, rfl, rx⟩ := vals1 r
  cases rx
  obtain ⟨its, r', pl, hz⟩ := I.list hq
  have hlen := r'.length
  refine call_tuple_list pl.isList (fun h' kp => ?_) (by simp only [List.size_toArray] <;> omega)
  have I1 : Inv X pins σ H { s with heap := h' } := I.kept (t' := s.toks) kp
  have I2 : Inv X pins σ (upd H h'.objs.size (.frz { cls := .type "tuple", data := .seq its.toArray } (.tup ys))) { s with heap := h'.push { cls := .type "tuple", data := .seq its.toArray } } :=
    I1.laid (t' := s.toks) (fun b o e => Heap.get?_push_of_some _ e) (Nat.le_refl _) ⟨Heap.get?_push_size _ rfl, show ObjOk X.prog X.w _ _ _ (.tup ys) from ⟨hz, its, r', IsTup.new _ _⟩⟩
  exact ⟨.ref h'.objs.size, _, I2, rfl, q _ _ rfl (I1.hok.fresh (Nat.le_refl _))⟩
theorem k_tupF (K : PySem.W.Frag) (hK : X.K = K := by rfl) : CallR X (.type "tuple") (rTupF K) := hK ▸ call_tupF

/-! ### dict(book) -/
/-- the items are pairs, tuples or lists -/
def PrV (K : PySem.W.Frag) (H : Hp) (v : V) (kv : Key × V) : Prop := ∃ T, v = .ref T ∧ (SqT K H T [kV kv.1, kv.2] ∨ SqL K H T [kV kv.1, kv.2])
def rDictB (K : PySem.W.Frag) : List V → Hp → VK → Prop := fun xs H Q => ∃ a vs kvs, xs = [.ref a] ∧ ((∃ o, H a = some (.frz o (.tup vs)) ∧ o.dict = none) ∨ SqL K H a vs) ∧ Paired (PrV K H) vs kvs ∧ kvs.length ≤ 1000 ∧
  ∀ p, H p = none → Q (.ref p) (upd H p (.dK (mergeK [] kvs)))
theorem prs_of {pins : List (Addr × Obj)} {σ : L2.St} {H : Hp} {s : Shared} (I : Inv X pins σ H s) : ∀ {vs : List V} {kvs : List (Key × V)} {its : List Value}, Paired (PrV X.K H) vs kvs → Vals vs its →
    ∃ (Ts : List Addr) (ps : List (Value × Value)) (prs : List (Key × Value)), ps.length = kvs.length ∧ Ts.length = kvs.length ∧ its = Ts.map Value.ref ∧ KV kvs prs ∧ (∀ (j : Nat) (k v : Value), ps[j]? = some (k, v) → ∃ T, Ts[j]? = some T ∧ PairAt s.heap T k v) ∧
      ∀ (j : Nat) (k v : Value), ps[j]? = some (k, v) → ∃ x, prs[j]? = some (x, v) ∧ (mixKind X.prog X.w).is x k = true
  | _, _, _, .nil, .nil => ⟨[], [], [], rfl, rfl, rfl, .nil, (fun j k v h => by simp at h), (fun j k v h => by simp at h)⟩
  | v :: vs, kv :: kvs, _, .cons h t, .cons r rt => by
    obtain ⟨Ts, ps, prs, l1, l2, e, rk, h1, h2⟩ := prs_of I t rt
    obtain ⟨T, rfl, hT⟩ := h
    cases r
    have key : ∃ (y z : Value), PairAt s.heap T y z ∧ RelV (kV kv.1) y ∧ RelV kv.2 z := by
      rcases hT with hT | hT
      · obtain ⟨is, ri, ⟨o, ho, hc, n, hd⟩, _⟩ := I.tuple hT
        obtain ⟨y, z, rfl, ry, rz⟩ := vals2 ri
        exact ⟨y, z, .inl ⟨o, ho, hc, n, hd⟩, ry, rz⟩
      · obtain ⟨is, ri, ⟨o, n, ho, hc, _, hd⟩, _⟩ := I.list hT
        obtain ⟨y, z, rfl, ry, rz⟩ := vals2 ri
        exact ⟨y, z, .inr ⟨o, ho, hc, n, hd⟩, ry, rz⟩
    obtain ⟨y, z, hp, ry, rz⟩ := key
    refine ⟨T :: Ts, (y, z) :: ps, (kv.1, z) :: prs, by simp [l1], by simp [l2], by rw [e]; rfl, .cons ⟨rfl, rz⟩ rk, fun j k v e => ?_, fun j k v e => ?_⟩
    · cases j with
      | zero => cases (Option.some.inj e); exact ⟨T, rfl, hp⟩
      | succ j => obtain ⟨T', a, b⟩ := h1 j k v (by simpa using e); exact ⟨T', by simpa using a, b⟩
    · cases j with
      | zero => cases (Option.some.inj e); exact ⟨kv.1, rfl, kV_is ry⟩
      | succ j => obtain ⟨x, a, b⟩ := h2 j k v (by simpa using e); exact ⟨x, by simpa using a, b⟩
theorem call_dictB (hcalm : X.calm = true) : CallR X (.type "dict") (rDictB X.K) := by
  intro pins s σ H xs us Q I r q
  obtain ⟨a, vs, kvs, rfl, hq, hp, hl, q⟩ := q
  obtain ⟨u, rfl, rx⟩ := vals1 r
  cases rx
  have hm : (s.heap.objs.size == sysModules) = false := beq_eq_false_iff_ne.mpr (Nat.ne_of_gt I.big)
  have key : ∀ its : List Value, Vals vs its → (PlainSeq "tuple" s.heap a its.toArray ∨ PlainSeq "list" s.heap a its.toArray) → wpAny (model X.prog X.w) X.A (call (.type "dict") [.ref a]) (EP X pins σ Q) X.xe s := fun its rv pl => by
    obtain ⟨Ts, ps, prs, l1, l2, e, rk, h1, h2⟩ := prs_of I hp rv
    have hpi : PairItems s.heap its.toArray (fun j => Ts.getD j 0) ps := by
      refine ⟨by rw [e]; simp [l1, l2], fun j k v hj => ?_⟩
      obtain ⟨T, hT, hpa⟩ := h1 j k v hj
      have eT : Ts.getD j 0 = T := by rw [List.getD_eq_getElem?_getD, hT]; rfl
      show its.toArray[j]? = some (Value.ref (Ts.getD j 0)) ∧ PairAt s.heap (Ts.getD j 0) k v
      rw [eT, e]
      exact ⟨by simp [hT], hpa⟩
    have rkl : kvs.length = prs.length := by
      have : ∀ {a : List (Key × V)} {b : List (Key × Value)}, KV a b → a.length = b.length := fun h => Paired.length h
      exact this rk
    have hph : PairsHave (mixKind X.prog X.w) ps.length (PairRel ps) prs := ⟨by omega, fun i k v h => h2 i k v h⟩
    have fin : ∀ h' tk, h'.DictOf (mixKind X.prog X.w) s.heap.objs.size (merged [] prs) → (∀ b o, b ∉ ([] : List Addr) → s.heap.get? b = some o → h'.get? b = some o) → EP X pins σ Q (.ref s.heap.objs.size) { s with heap := h', toks := tk } := fun h' tk hd' k => by
      have hlen : (mergeK [] kvs).length ≤ sizeLine := by
        refine Nat.le_trans (length_mergeK kvs []) ?_
        rw [List.length_nil, Nat.zero_add, sizeLine_eq]; omega
      exact ⟨.ref s.heap.objs.size, upd H s.heap.objs.size (.dK (mergeK [] kvs)), I.laid (t' := tk) (fun b o e => k b o (by simp) e) (Nat.le_refl _) (show ObjOk X.prog X.w _ _ _ (.dK (mergeK [] kvs)) from ⟨hlen, hm, merged [] prs, KV.merge rk .nil, hd'⟩), rfl, q _ (I.hok.fresh (Nat.le_refl _))⟩
    have hz : ps.length ≤ sizeLine := by rw [l1, sizeLine_eq]; omega
    rcases pl with pl | pl
    · exact call_dict_pairs (PairArg.tuple a its.toArray (fun j => Ts.getD j 0) ps) (I.ok.hd hcalm) ⟨pl, hpi⟩ hph hz fin
    · exact call_dict_pairs (PairArg.list a its.toArray (fun j => Ts.getD j 0) ps) (I.ok.hd hcalm) ⟨pl, hpi⟩ hph hz fin
  rcases hq with ⟨o, ho, hd⟩ | hq
  · obtain ⟨h1, hz, its, rv, o', h2, hc, n, hdt⟩ := I.hok a _ ho
    rw [h1] at h2; cases h2
    exact key its rv (.inl ⟨o, n, h1, hc, hd, hdt⟩)
  · obtain ⟨its, rv, ⟨o, n, ho, hc, hd, hdt⟩, hz⟩ := I.list hq
    exact key its rv (.inr ⟨o, n, ho, hc, hd, hdt⟩)
theorem k_dictB (K : PySem.W.Frag) (hK : X.K = K := by rfl) (hc : X.calm = true := by rfl) : CallR X (.type "dict") (rDictB K) := hK ▸ call_dictB hc
end
theorem mergeK_new : ∀ (kvs acc : List (Key × V)), (kvs.map (·.1)).Nodup → (∀ p ∈ kvs, ∀ q ∈ acc, q.1 ≠ p.1) → mergeK acc kvs = acc ++ kvs
  | [], acc, _, _ => by show acc = acc ++ []; rw [List.append_nil]
  | p :: kvs, acc, nd, h => by
    obtain ⟨n1, n2⟩ := List.nodup_cons.mp nd
    have hv : valV acc p.1 = none := by
      unfold valV
      rw [List.find?_eq_none.mpr fun q hq => by simpa using h p List.mem_cons_self q hq]; rfl
    show mergeK (putK acc p.1 p.2) kvs = _
    rw [putK_new _ hv, mergeK_new kvs (acc ++ [(p.1, p.2)]) n2 fun x hx q hq => ?_]
    · rw [List.append_assoc]; rfl
    · rcases List.mem_append.mp hq with z | z
      · exact h x (List.mem_cons_of_mem _ hx) q z
      · rw [List.mem_singleton.mp z]
        exact fun e => n1 (List.mem_map.mpr ⟨x, hx, e.symm⟩)
end UpS

/-! text Up8 -/
set_option Elab.async false
set_option linter.all false
set_option maxRecDepth 100000
set_option maxHeartbeats 4000000
/-! grown, behind_of -/
namespace Up
open PySem PySem.Spec PyProof.Rows L2 UpS
def tbL (l : Bool) (b : Bk) : List (Key × D) := b.map fun p => (Sum.inr p.1, needD l p.2)
theorem prs_bk {K : PySem.W.Frag} {G H : Hp} (e : Ex G H) (l : Bool) : ∀ {b : Bk} {vs : List V}, Rps G (b.map (bkItem l)) vs → ∃ kvs : List (Key × V), Paired (PrV K H) vs kvs ∧ Rpk G (tbL l b) kvs ∧ kvs.map (·.1) = b.map fun p => Sum.inr p.1
  | [], _, h => by cases h; exact ⟨[], .nil, .nil, rfl⟩
  | p :: b, _, h => by
    cases h with
    | cons h r =>
      obtain ⟨kvs, h1, h2, h3⟩ := prs_bk e l r
      cases l with
      | false =>
        cases h with
        | @tup a us _ ha rs =>
          obtain ⟨x, y, rfl, rx, ry⟩ := rs.i2
          cases rx
          exact ⟨(Sum.inr p.1, y) :: kvs, .cons ⟨a, rfl, .inl (sqT_of e ha)⟩ h1, .cons ry h2, by rw [List.map_cons, h3]; rfl⟩
      | true =>
        cases h with
        | @lst a us _ ha rs =>
          obtain ⟨x, y, rfl, rx, ry⟩ := rs.i2
          cases rx
          exact ⟨(Sum.inr p.1, y) :: kvs, .cons ⟨a, rfl, .inr (sqL_of e ha)⟩ h1, .cons ry h2, by rw [List.map_cons, h3]; rfl⟩
theorem tbl_key (l : Bool) : ∀ (b : Bk) (u : Str), ((tbL l b).find? fun kv => decide (kv.1 = Sum.inr u)).map (·.2) = ((b.find? fun p => decide (p.1 = u)).map (·.2)).map (needD l)
  | [], _ => rfl
  | p :: b, u => by
    by_cases z : p.1 = u
    · have e1 : (tbL l (p :: b)).find? (fun kv => decide (kv.1 = Sum.inr u)) = some (Sum.inr p.1, needD l p.2) := List.find?_cons_of_pos (by simpa using z)
      have e2 : (p :: b).find? (fun p => decide (p.1 = u)) = some p := List.find?_cons_of_pos (by simpa using z)
      rw [e1, e2]; rfl
    · have e1 : (tbL l (p :: b)).find? (fun kv => decide (kv.1 = Sum.inr u)) = (tbL l b).find? (fun kv => decide (kv.1 = Sum.inr u)) := List.find?_cons_of_neg (by simpa using z)
      have e2 : (p :: b).find? (fun p => decide (p.1 = u)) = b.find? (fun p => decide (p.1 = u)) := List.find?_cons_of_neg (by simpa using z)
      rw [e1, e2]; exact tbl_key l b u
theorem tbl_at {b : Bk} (l : Bool) {u : Str} (h : u ∈ names b) : ((tbL l b).find? fun kv => decide (kv.1 = Sum.inr u)).map (·.2) = some (needD l (needsOf b u)) := by
  obtain ⟨p, e, _⟩ := needs_find h
  rw [tbl_key, e]
  unfold needsOf
  rw [e]; rfl
section
variable {K : PySem.W.Frag} {σ : L2.St} {G H : Hp} {te : TE} {ds : List D}
theorem gd_dictB {x : D} {b : Bk} (h : GD te σ G x) (hb : IsBk x b) (S : Sm b) : ∃ l, GD (tCB (rDictB K) (tCons te tNil)) σ G (.dk (tbL l b)) := by
  have len := S.len
  have nd : (b.map fun p => (Sum.inr p.1 : Key)).Nodup := List.pairwise_map.mpr (List.Pairwise.imp (fun {p q} h z => h (Sum.inr.inj z)) (List.pairwise_map.mp S.nd))
  have kl : ∀ {kvs : List (Key × V)}, kvs.map (·.1) = b.map (fun p => (Sum.inr p.1 : Key)) → kvs.length ≤ 1000 := fun e => by
    have := congrArg List.length e
    rw [List.length_map, List.length_map] at this
    omega
  rcases hb with rfl | rfl
  · refine ⟨false, fun H e Q q => h H e _ fun v G1 H1 g r => ?_⟩
    cases r with
    | @ftup a o vs _ ha od rs =>
      obtain ⟨kvs, h1, h2, h3⟩ := prs_bk (K := K) g.gh false (b := b) rs
      refine ⟨a, vs, kvs, rfl, .inl ⟨o, g.gh _ _ ha, od⟩, h1, kl h3, fun p hp => ?_⟩
      rw [mergeK_new kvs [] (by rw [h3]; exact nd) (fun _ _ q hq => nomatch hq), List.nil_append]
      exact q _ _ _ (g.data hp) (.dk upd_same (h2.mono (Ex.new (g.gh.free hp))))
  · refine ⟨true, fun H e Q q => h H e _ fun v G1 H1 g r => ?_⟩
    cases r with
    | @lst a vs _ ha rs =>
      obtain ⟨kvs, h1, h2, h3⟩ := prs_bk (K := K) g.gh true (b := b) rs
      refine ⟨a, vs, kvs, rfl, .inr (sqL_of g.gh ha), h1, kl h3, fun p hp => ?_⟩
      rw [mergeK_new kvs [] (by rw [h3]; exact nd) (fun _ _ q hq => nomatch hq), List.nil_append]
      exact q _ _ _ (g.data hp) (.dk upd_same (h2.mono (Ex.new (g.gh.free hp))))
theorem rl_list {d : D} (hd : d = .tup ds ∨ d = .lst ds) : RL (rLstU K) [d] ds := fun G vs h H e Q q => by
  cases h with
  | cons h t =>
    cases t
    rcases hd with rfl | rfl
    · cases h with
      | tup ha rs => exact ⟨_, _, rfl, .inr (sqT_of e ha), fun l hl => q l _ G _ ((Gr.refl e).put (.inl hl) (e.free hl)) hl (e.free hl) upd_same rs⟩
    · cases h with
      | lst ha rs => exact ⟨_, _, rfl, .inl (sqL_of e ha), fun l hl => q l _ G _ ((Gr.refl e).put (.inl hl) (e.free hl)) hl (e.free hl) upd_same rs⟩
end
/-! ### grown -/
def growGo (b : Bk) (some : T1) (size : Nat) : Nat → T1 → T1
  | 0, own => own
  | n + 1, own => if own.length < size then match some.filter (lets b own) with
    | [] => own
    | u :: _ => growGo b some size n (own ++ [u]) else own
def grownM (b : Bk) (row some : T1) (size : Nat) : T1 := growGo b some size (some.length + 1) row
def left (some own : T1) : Nat := (some.filter fun u => !decide (u ∈ own)).length
theorem left_le (some own : T1) : left some own ≤ some.length := List.length_filter_le _ _
theorem left_lt {some own : T1} {u : Str} (hu : u ∈ some) (hn : u ∉ own) : left some (own ++ [u]) < left some own := by
  unfold left
  have e : some.filter (fun v => !decide (v ∈ own ++ [u])) = (some.filter fun v => !decide (v ∈ own)).filter fun v => !decide (v = u) := by
    rw [List.filter_filter]
    refine List.filter_congr fun v _ => ?_
    rw [Bool.eq_iff_iff]
    simp [List.mem_append, not_or, and_comm]
  rw [e]
  refine List.length_filter_lt_length_iff_exists.mpr ⟨u, List.mem_filter.mpr ⟨hu, by simp [hn]⟩, by simp⟩
section
variable {P : Program} {w : World} {K : PySem.W.Frag} {mg : Str → Option Value} {base : Heap}
def fGrown : List D → D → Prop := fun ds d => ∃ x y z b r a n, ds = [x, y, z, .int (n : Nat)] ∧ IsBk x b ∧ IsT1 y r ∧ IsT1 z a ∧ Sm b ∧ r.length ≤ 1000 ∧ a.length ≤ 1000 ∧ (∀ u ∈ a, u ∈ names b) ∧ d = tS (grownM b r a n)
theorem ok_grown (M : Mo mg) (h : Df K mg "grown" s_grown p_grown) (hW : At P w K mg base "is_within" s_is_within p_is_within 1 (spD 2 fIsWithin)) : At P w K mg base "grown" s_grown p_grown 2 (spD 4 fGrown) := by
  obtain ⟨f_is_within, fd_is_within, F_is_within, b_is_within, g_is_within, G_is_within⟩ := hW
  obtain ⟨f, fd, F, b, g⟩ := h
  refine ⟨f, fd, F, b, g, F.ok c_grown (fun vs H Q E h => h.1) (fun cdv A outer s H vs Q E hr h => ?_)⟩
  obtain ⟨_, ds, d, G, e, r, ⟨x, y, z, bk, rw, a, n, rfl, hb, hy, hz, S, hrl, hal, hin, rfl⟩, q⟩ := h
  obtain ⟨v0, v1, v2, v3, rfl, r0, r1, r2, r3⟩ := r.i4
  refine ⟨_, (pss_cons
    (ps_asg (pe_tup (pa_cons (pe_callTy (k_list K) (by rfl) M.list_ PyProof.Rows.boot_list (pa_cons (pv 1) pa_nil)) (pa_cons (pe_callTy (k_dictB K) (by rfl) M.dict_ PyProof.Rows.boot_dict (pa_cons (pv 0) pa_nil)) pa_nil))) (k_tupn K 2 (pgs_cons (pg_name (i := 4) c_grown.nd rfl (by first | exact .inl rfl | exact .inr rfl)) (pgs_cons (pg_name (i := 5) c_grown.nd rfl (by first | exact .inl rfl | exact .inr rfl)) pgs_nil))))
    (pss_cons
    (ps_set (i := 6) c_grown.nd rfl (by first | exact .inl rfl | exact .inr rfl) pe_bl)
    (pss_cons
    (ps_while PassesOwn.never (PW.pt (pw_and (pt_val (pv 6)) (pw_and1 (pt_cmpR op_lt (pe_callB (k_len K) (by rfl) M.len_ PySem.boot_len (pa_cons (pv 4) pa_nil)) (pv 3) (nomark _))))) (pss_cons
        (ps_setLc (i := 7) (own := [("name", 8)]) rfl c_grown.nd rfl rfl (sw_true rfl rfl rfl (by decide +kernel)) (k_seq K (pv 2)) (blkOk_by (by kernel_rfl)) (fun _ _ _ _ _ => (pg_name (i := 8) c_grown.nd rfl (by first | exact .inl rfl | exact .inr rfl))) (fun _ _ _ _ _ => (pts_one (PW.pt (pw_and (pt_cmpR (k_notIn K) (pv 8) (pv 4) (by rfl)) (pw_and1 (pt_val (pe_callB (k_any K) (by rfl) M.any_ PyProof.Rows.boot_any (pa_cons (pe_lc (own := [("need", 9)]) rfl c_grown.nd (k_seq K (pe_dget (hu1 hr) (pv 5) (pv 8) (fun _ _ => rfl))) (blkOk_by (by kernel_rfl)) (fun _ _ _ _ _ => (pg_name (i := 9) c_grown.nd rfl (by first | exact .inl rfl | exact .inr rfl))) (fun _ _ _ _ _ => pts_nil) (fun _ _ _ _ _ => (pe_call G_is_within (hr.mono (by omega)) (by rfl) g_is_within F_is_within.kp b_is_within .nil pass0 (pa_cons (pv 9) (pa_cons (pv 4) pa_nil))))) pa_nil)))))))) (fun _ _ _ _ _ => (pv 8)))
        (pss_cons
        (ps_set (i := 6) c_grown.nd rfl (by first | exact .inl rfl | exact .inr rfl) (pe_cmpR op_gt (pe_callB (k_len K) (by rfl) M.len_ PySem.boot_len (pa_cons (pv 7) pa_nil)) pe_int (nomark _)))
        (pss_one
        (ps_set (i := 4) c_grown.nd rfl (by first | exact .inl rfl | exact .inr rfl) (pe_op op_cat (pv 4) (pe_slice (k_slL K) (pv 7) po_none (po_some pe_int))))))))
    (pss_one
    (ps_ret (pe_callTy (k_tuple K) (by rfl) M.tuple_ PyProof.Rows.boot_tuple (pa_cons (pv 4) pa_nil))))))), ?_⟩
  obtain ⟨l, gdd⟩ := gd_dictB (K := K) (σ := start n_grown [v0, v1, v2, v3]) (gd_var (i := 0) rfl r0) hb S
  refine sq_par2 (ga_two (GL.gd (gl_cb (ga_one (gd_var (i := 1) rfl r1)) (rl_list (ds := rw.map D.str) (hy.imp id id)))) gdd) e fun v4 v5 G1 H1 g1 r4 r5 => ?_
  refine sq_asg (gd_c (.bl true)) g1.gh fun v6 G2 H2 g2 r6 => ?_
  have gg2 := g1.trans g2
  refine s_while (fun k σ' G' H' => ∃ (m : Nat) (o : T1) (gr : Bool) (u4 : V) (l1 l2 l3 : Option V), σ' = [some v0, some v1, some v2, some v3, some u4, some v5, some (.bl gr), l1, l2, l3] ∧ Gr N0 G2 H2 G' H' ∧ Rp G' (lS o) u4 ∧ left a o < m ∧ o.length + left a o ≤ 2000 ∧
      (gr = true → growGo bk a n m o = grownM bk rw a n) ∧ (gr = false → o = grownM bk rw a n) ∧ k = m + (if gr then 1 else 0))
    (n := a.length + 2) ⟨a.length + 1, rw, true, v4, none, none, none, ?_, .refl gg2.gh, r4.mono g2.gg, by have := left_le a rw; omega, by have := left_le a rw; omega, fun _ => rfl, (fun z => nomatch z), rfl⟩ ?_
  · cases r6; rfl
  · rintro k σ' G' H' ⟨m, o, gr, u4, l1, l2, l3, rfl, gg, ro, hm, hol, ht, hf, rfl⟩
    have m2 : Ex G G' := gg2.gg.trans gg.gg
    refine ⟨gr && decide ((o.length : Int) < (n : Int)), gg.gh, ?_, fun hg G3 H3 g3 => ?_, fun hg G3 H3 g3 => ?_⟩
    · refine gt_and (gt_test (gd_var (i := 6) rfl (.bl gr))) fun _ => ?_
      have := gt_B (gd_op (r := rI0 fun i j => V.bl (decide (i < j))) (gd_cb (ga_one (gd_var (σ := [some v0, some v1, some v2, some v3, some u4, some v5, some (V.bl gr), l1, l2, l3]) (i := 4) rfl ro)) (rb_lenL (K := K))) (gd_var (i := 3) rfl (r3.mono m2)) ro_cmp)
      rw [List.length_map] at this
      exact this
    · rw [Bool.and_eq_true, decide_eq_true_eq] at hg
      obtain ⟨rfl, hlt⟩ := hg
      have hlt' : o.length < n := by omega
      have m3 : Ex G G3 := m2.trans g3.gg
      have m13 : Ex G1 G3 := g2.gg.trans (gg.gg.trans g3.gg)
      refine sq_asg (GL.gd (gl_lc1 (xs := a) (e := D.str) (p := lets bk o) (f := fun u => D.str u) (gi_T1 (gd_var (i := 2) rfl (r2.mono m3)) hz) (by omega) (fun _ => rfl)
        (fun u hu G4 v e4 rv => ?_) (fun u hu _ G4 v e4 rv => gd_var rfl rv))) g3.gh fun v7 G4 H4 g4 r7 => ?_
      · refine gt_and (gt_is (gt_B (gd_inT1 (neg := true) (gd_var (i := 8) rfl rv) (gd_var (i := 4) rfl (ro.mono (g3.gg.trans e4))) (.inr rfl))) rfl) fun _ => ?_
        have hs := S.needs (hin u hu)
        have tb := gd_dget (k := Sum.inr u) (d := needD l (needsOf bk u)) (kvs := tbL l bk) (gd_var (σ := wipe ((wipe [some v0, some v1, some v2, some v3, some u4, some v5, some (V.bl true), l1, l2, l3] [8]).set 8 (some v)) [9]) (i := 5) rfl (r5.mono (m13.trans e4))) (.inl rfl) (gd_var (i := 8) rfl rv) (fun G v h => by cases h; rfl) (tbl_at l (hin u hu))
        refine gt_test (gd_anym (xs := needsOf bk u) (f := fun nd => nd.all fun o' => decide (o' ∈ o)) (ga_one (GL.gd ?_)))
        cases l with
        | false =>
          refine gl_lc0 (xs := needsOf bk u) (e := tS) (f := fun nd => .bl (nd.all fun o' => decide (o' ∈ o))) (gi_seqT tb) (by omega) (fun _ => rfl) fun nd hnd G5 v5' e5 rn => ?_
          have hnl := hs.2 nd hnd
          exact gd_call (ga_two (gd_var (i := 9) rfl rn) (gd_var (i := 4) rfl (ro.mono (g3.gg.trans (e4.trans e5))))) rfl ⟨_, _, nd, o, rfl, .inl rfl, .inr rfl, by omega, rfl⟩
        | true =>
          refine gl_lc0 (xs := needsOf bk u) (e := lS) (f := fun nd => .bl (nd.all fun o' => decide (o' ∈ o))) (gi_seqL tb) (by omega) (fun _ => rfl) fun nd hnd G5 v5' e5 rn => ?_
          have hnl := hs.2 nd hnd
          exact gd_call (ga_two (gd_var (i := 9) rfl rn) (gd_var (i := 4) rfl (ro.mono (g3.gg.trans (e4.trans e5))))) rfl ⟨_, _, nd, o, rfl, .inr rfl, .inr rfl, by omega, rfl⟩
      refine sq_asg (gd_op (gd_cb (ga_one (gd_var (i := 7) rfl r7)) rb_lenL) (gd_c (.int 0)) ro_cmp) g4.gh fun v6' G5 H5 g5 r6' => ?_
      rw [List.length_map] at r6'
      have fl : (a.filter (lets bk o)).length ≤ a.length := List.length_filter_le _ _
      have m35 := g3.gg.trans (g4.gg.trans g5.gg)
      refine s_asg (gd_op (gd_var (i := 4) rfl (ro.mono m35)) (GL.gd (gl_slL (gd_var (i := 7) rfl (r7.mono g5.gg)) go_none (go_some (i := ((1 : Nat) : Int)) (gd_c (.int 1))))) (ro_catL (by rw [List.length_map, cutD_to, List.length_take]; omega))) g5.gh fun u4' G6 H6 g6 r4' => ?_
      have gx := gg.trans (g3.trans (g4.trans (g5.trans g6)))
      rw [cutD_to] at r4'
      cases m with
      | zero => omega
      | succ m =>
      have ht' := ht rfl
      unfold growGo at ht'
      rw [if_pos hlt'] at ht'
      cases hc : a.filter (lets bk o) with
      | nil =>
        rw [hc] at r6' r4' ht'
        cases r6'
        refine ⟨_, G6, ?_, m + 1, o, false, u4', _, _, _, rfl, gx, ?_, hm, hol, (fun z => nomatch z), (fun _ => ht'), rfl⟩
        · simp
        · have : o.map D.str ++ List.take 1 (List.map (fun u => D.str u) []) = o.map D.str := by simp
          rw [this] at r4'; exact r4'
      | cons u rest =>
        rw [hc] at r6' r4' ht'
        have hu := filter_head hc
        have hcmp : decide ((0 : Int) < ((u :: rest).length : Int)) = true := by
          rw [decide_eq_true_eq, List.length_cons]; omega
        rw [hcmp] at r6'
        cases r6'
        have hlt2 := left_lt hu.1 (lets_out hu.2)
        refine ⟨_, G6, ?_, m, o ++ [u], true, u4', _, _, _, rfl, gx, ?_, by omega, by rw [List.length_append, List.length_singleton]; omega, (fun _ => ht'), (fun z => nomatch z), rfl⟩
        · simp
        · have : o.map D.str ++ List.take 1 (List.map (fun u => D.str u) (u :: rest)) = (o ++ [u]).map D.str := by rw [List.map_append]; rfl
          rw [this] at r4'; exact r4'
    · have hres : o = grownM bk rw a n := by
        cases gr with
        | false => exact hf rfl
        | true =>
          rw [Bool.true_and, decide_eq_false_iff_not] at hg
          have ht' := ht rfl
          cases m with
          | zero => omega
          | succ m =>
            unfold growGo at ht'
            rw [if_neg (by omega)] at ht'
            exact ht'
      refine gd_cb (ga_one (gd_var (i := 4) rfl (ro.mono g3.gg))) rb_tupL H3 g3.gh _ fun v G4 H4 g4 r4 => ?_
      rw [hres] at r4
      exact q v G4 H4 (gg2.trans (gg.trans (g3.trans g4))) r4
end
end Up

/-! text Up9 -/
set_option Elab.async false
set_option linter.all false
set_option maxRecDepth 100000
set_option maxHeartbeats 4000000
/-! behind_of, put_behind, matched -/
namespace Up
open PySem PySem.Spec PyProof.Rows L2 UpS
/-! ### behind_of -/
def enumL (ps : T2) : List (Nat × T1) := (List.range ps.length).map fun i => (i, ps.getD i [])
def eItem (p : Nat × T1) : D := .tup [.int (p.1 : Nat), tS p.2]
theorem enum_map (ps : T2) : enumD (ps.map tS) = (enumL ps).map eItem := by
  unfold enumD enumL
  rw [List.length_map, List.map_map]
  refine List.map_congr_left fun i hi => ?_
  have hi' : i < ps.length := List.mem_range.mp hi
  show D.tup [.int (i : Nat), (ps.map tS).getD i .non] = D.tup [.int (i : Nat), tS (ps.getD i [])]
  rw [List.getD_eq_getElem?_getD, List.getD_eq_getElem?_getD, List.getElem?_map, List.getElem?_eq_getElem hi']
  rfl
def behindP (some : T1) (p : Nat × T1) : Bool := !decide (p.2 = some) && isWithin some p.2
def behindRow (ps : T2) (some : T1) : List Nat := ((enumL ps).filter (behindP some)).map (·.1)
def behindM (ps : T2) : List (List Nat) := ps.map (behindRow ps)
def nI (l : List Nat) : List D := l.map fun (i : Nat) => D.int (i : Int)
def nnI (A : List (List Nat)) : D := .lst (A.map fun l => .lst (nI l))
theorem mem_enumL {ps : T2} {p : Nat × T1} (h : p ∈ enumL ps) : p.2 ∈ ps ∧ ps[p.1]? = some p.2 := by
  obtain ⟨i, hi, rfl⟩ := List.mem_map.mp h
  have hi' : i < ps.length := List.mem_range.mp hi
  have e : ps.getD i [] = ps[i] := by rw [List.getD_eq_getElem?_getD, List.getElem?_eq_getElem hi']; rfl
  refine ⟨?_, ?_⟩
  · show ps.getD i [] ∈ ps
    rw [e]; exact List.getElem_mem hi'
  · show ps[i]? = some (ps.getD i [])
    rw [e]; exact List.getElem?_eq_getElem hi'
theorem okT_mem {ts : T2} (h : okT ts = true) {t : T1} (ht : t ∈ ts) : okS t = true := by
  unfold okT at h
  exact List.all_eq_true.mp h t ht
section
variable {P : Program} {w : World} {K : PySem.W.Frag} {mg : Str → Option Value} {base : Heap}
def fBehind : List D → D → Prop := fun ds d => ∃ ps, ds = [tT ps] ∧ okT ps = true ∧ ps.length ≤ 1024 ∧ (∀ p ∈ ps, p.length ≤ 1000) ∧ d = nnI (behindM ps)
theorem ok_behind_of (M : Mo mg) (h : Df K mg "behind_of" s_behind_of p_behind_of) (hW : At P w K mg base "is_within" s_is_within p_is_within 1 (spD 2 fIsWithin)) : At P w K mg base "behind_of" s_behind_of p_behind_of 2 (spD 1 fBehind) := by
  obtain ⟨f_is_within, fd_is_within, F_is_within, b_is_within, g_is_within, G_is_within⟩ := hW
  obtain ⟨f, fd, F, b, g⟩ := h
  refine ⟨f, fd, F, b, g, F.ok c_behind_of (fun vs H Q E h => h.1) (fun cdv A outer s H vs Q E hr h => ?_)⟩
  obtain ⟨_, ds, d, G, e, r, ⟨ps, rfl, hok, hl, hpl, rfl⟩, q⟩ := h
  obtain ⟨v0, rfl, r0⟩ := r.i1
  refine ⟨_, (pss_one
    (ps_ret (pe_lc (own := [("some", 1)]) rfl c_behind_of.nd (k_seq K (pv 0)) (blkOk_by (by kernel_rfl)) (fun _ _ _ _ _ => (pg_name (i := 1) c_behind_of.nd rfl (by first | exact .inl rfl | exact .inr rfl))) (fun _ _ _ _ _ => pts_nil) (fun _ _ _ _ _ => (pe_lc (own := [("place", 2), ("far", 3)]) rfl c_behind_of.nd (k_enumU K (by rfl) M.enumerate_ (pa_cons (pv 0) pa_nil)) (blkOk_by (by kernel_rfl)) (fun _ _ _ _ _ => (k_tup2 K (pgs_cons (pg_name (i := 2) c_behind_of.nd rfl (by first | exact .inl rfl | exact .inr rfl)) (pgs_cons (pg_name (i := 3) c_behind_of.nd rfl (by first | exact .inl rfl | exact .inr rfl)) pgs_nil)))) (fun _ _ _ _ _ => (pts_one (PW.pt (pw_and (pt_cmpR (k_neD K hr.units) (pv 3) (pv 1) (nomark _)) (pw_and1 (pt_val (pe_call G_is_within (hr.mono (by omega)) (by rfl) g_is_within F_is_within.kp b_is_within .nil pass0 (pa_cons (pv 1) (pa_cons (pv 3) pa_nil))))))))) (fun _ _ _ _ _ => (pv 2))))))), ?_⟩
  refine gd_is (GL.gd (gl_lc0 (xs := ps) (e := tS) (f := fun s => D.lst (nI (behindRow ps s))) (gi_seqT (gd_var (i := 0) rfl r0)) (by omega) (fun _ => rfl) fun s hs G' v e' rv => ?_)) (show D.lst (ps.map fun s => D.lst (nI (behindRow ps s))) = nnI (behindM ps) by unfold nnI behindM; rw [List.map_map]; rfl) H e Q q
  have el : (enumL ps).length = ps.length := by simp [enumL]
  refine gd_is (GL.gd (gl_lc (xs := enumL ps) (e := eItem) (p := behindP s) (f := fun p => D.int (p.1 : Nat)) (by rw [← enum_map]; exact gi_enum (.inr rfl) (ga_one (gd_var rfl (r0.mono e')))) (by omega)
    (fun p hp G2 H2 v2 e2 e3 rp Q2 q2 => tg_tup2 rp e3 fun a c ra rc => q2 _ rfl
      (gt_and (gt_B (gd_op (gd_var (i := 3) rfl rc) (gd_var (i := 1) rfl (rv.mono e2)) (ro_neT (okT_mem hok (mem_enumL hp).1) (okT_mem hok hs)))) fun _ => gt_test (gd_call (ga_two (gd_var (i := 1) rfl (rv.mono e2)) (gd_var (i := 3) rfl rc)) rfl ⟨_, _, s, p.2, rfl, .inl rfl, .inl rfl, hpl s hs, rfl⟩))
      fun _ => gd_var (i := 2) rfl ra))) ?_
  unfold behindRow nI
  rw [List.map_map]
  rfl
end

/-! ### put_behind -/
def lookM (m : List (Nat × Nat)) (o : Nat) : Option Nat := (m.find? fun p => decide (p.1 = o)).map (·.2)
def putM (m : List (Nat × Nat)) (o p : Nat) : List (Nat × Nat) := if (m.any fun q => decide (q.1 = o)) = true then m.map (fun q => if q.1 = o then (q.1, p) else q) else m ++ [(o, p)]
abbrev PSt := List (Nat × Nat) × List Nat
def putLoop (again : Nat → PSt → Bool × PSt) (place : Nat) : List Nat → PSt → Bool × PSt
  | [], st => (false, st)
  | o :: r, st => if o ∈ st.2 then putLoop again place r st else match lookM st.1 o with
    | none => (true, (putM st.1 o place, st.2 ++ [o]))
    | some p' => match again p' (st.1, st.2 ++ [o]) with
      | (true, st2) => (true, (putM st2.1 o place, st2.2))
      | (false, st2) => putLoop again place r st2
def putB (A : List (List Nat)) : Nat → Nat → PSt → Bool × PSt
  | 0, _, st => (false, st)
  | n + 1, place, st => putLoop (putB A n) place (A.getD place []) st
def matchedM (A : List (List Nat)) : List (Nat × Nat) := (List.range A.length).foldl (fun m p => (putB A 41 p (m, [])).2.1) []
/-- the state is of places below N -/
structure PInv (N : Nat) (st : PSt) : Prop where
  nd : (st.1.map (·.1)).Nodup
  lt : ∀ p ∈ st.1, p.1 < N ∧ p.2 < N
  tn : st.2.Nodup
  tl : ∀ o ∈ st.2, o < N
theorem lookM_some {m : List (Nat × Nat)} {o p : Nat} (h : lookM m o = some p) : (o, p) ∈ m := by
  unfold lookM at h
  cases q : m.find? (fun p => decide (p.1 = o)) with
  | none => rw [q] at h; cases h
  | some x =>
    rw [q] at h
    have h1 := List.find?_some q
    have h2 := List.mem_of_find?_eq_some q
    simp only [decide_eq_true_eq] at h1
    cases h
    rw [← h1]; exact h2
theorem putM_keys (m : List (Nat × Nat)) (o p : Nat) : (putM m o p).map (·.1) = if o ∈ m.map (·.1) then m.map (·.1) else m.map (·.1) ++ [o] := by
  unfold putM
  have e : (m.any fun q => decide (q.1 = o)) = true ↔ o ∈ m.map (·.1) := by
    rw [List.any_eq_true, List.mem_map]
    simp only [decide_eq_true_eq]
  by_cases h : o ∈ m.map (·.1)
  · rw [if_pos (e.mpr h), if_pos h, List.map_map]
    refine List.map_congr_left fun q _ => ?_
    show (if q.1 = o then (q.1, p) else q).1 = q.1
    split <;> rfl
  · rw [if_neg (fun z => h (e.mp z)), if_neg h, List.map_append]; rfl
theorem mem_putM {m : List (Nat × Nat)} {o p : Nat} {q : Nat × Nat} (h : q ∈ putM m o p) : q = (o, p) ∨ (q ∈ m ∧ q.1 ≠ o) ∨ (q ∈ m ∧ o ∉ m.map (·.1)) := by
  unfold putM at h
  split at h
  · obtain ⟨x, hx, e⟩ := List.mem_map.mp h
    by_cases z : x.1 = o
    · rw [if_pos z] at e; left; rw [← e, z]
    · rw [if_neg z] at e; right; left; rw [← e]; exact ⟨hx, z⟩
  · rename_i hn
    rcases List.mem_append.mp h with z | z
    · right; right
      refine ⟨z, fun y => hn ?_⟩
      obtain ⟨x, hx, e⟩ := List.mem_map.mp y
      exact List.any_eq_true.mpr ⟨x, hx, by simpa using e⟩
    · left; exact List.mem_singleton.mp z
theorem PInv.put {N : Nat} {st : PSt} (I : PInv N st) {o p : Nat} (ho : o < N) (hp : p < N) : PInv N (putM st.1 o p, st.2) := by
  refine ⟨?_, fun q hq => ?_, I.tn, I.tl⟩
  · show ((putM st.1 o p).map (·.1)).Nodup
    rw [putM_keys]
    split
    · exact I.nd
    · rename_i h; exact nodup_snoc I.nd h
  · rcases mem_putM hq with e | ⟨e, _⟩ | ⟨e, _⟩
    · rw [e]; exact ⟨ho, hp⟩
    · exact I.lt q e
    · exact I.lt q e
theorem PInv.try_ {N : Nat} {st : PSt} (I : PInv N st) {o : Nat} (ho : o < N) (hn : o ∉ st.2) : PInv N (st.1, st.2 ++ [o]) :=
  ⟨I.nd, I.lt, nodup_snoc I.tn hn, fun x hx => by
    rcases List.mem_append.mp hx with z | z
    · exact I.tl x z
    · rw [List.mem_singleton.mp z]; exact ho⟩
theorem putLoop_inv {N place : Nat} {again : Nat → PSt → Bool × PSt} (hpl : place < N) (ha : ∀ p st, p < N → PInv N st → PInv N (again p st).2 ∧ st.2.length ≤ (again p st).2.2.length) :
    ∀ (l : List Nat) (st : PSt), (∀ o ∈ l, o < N) → PInv N st → PInv N (putLoop again place l st).2 ∧ st.2.length ≤ (putLoop again place l st).2.2.length
  | [], st, _, I => ⟨I, Nat.le_refl _⟩
  | o :: r, st, hl, I => by
    unfold putLoop
    have ho := hl o List.mem_cons_self
    have hr := fun x hx => hl x (List.mem_cons_of_mem _ hx)
    by_cases h : o ∈ st.2
    · rw [if_pos h]; exact putLoop_inv hpl ha r st hr I
    · rw [if_neg h]
      have I1 := I.try_ ho h
      have l1 : st.2.length ≤ (st.2 ++ [o]).length := by rw [List.length_append]; exact Nat.le_add_right _ _
      cases e : lookM st.1 o with
      | none => exact ⟨I1.put ho hpl, l1⟩
      | some p' =>
        have hp' := (I.lt _ (lookM_some e)).2
        obtain ⟨a1, a2⟩ := ha p' (st.1, st.2 ++ [o]) hp' I1
        simp only
        cases e2 : again p' (st.1, st.2 ++ [o]) with
        | mk b st2 =>
          rw [e2] at a1 a2
          cases b with
          | true => exact ⟨a1.put ho hpl, Nat.le_trans l1 a2⟩
          | false =>
            obtain ⟨c1, c2⟩ := putLoop_inv hpl ha r st2 hr a1
            exact ⟨c1, Nat.le_trans (Nat.le_trans l1 a2) c2⟩
/-- a square of places -/
def AOk (A : List (List Nat)) : Prop := ∀ l ∈ A, ∀ o ∈ l, o < A.length
theorem AOk.at {A : List (List Nat)} (h : AOk A) (p : Nat) : ∀ o ∈ A.getD p [], o < A.length := by
  intro o ho
  rw [List.getD_eq_getElem?_getD] at ho
  cases q : A[p]? with
  | none => rw [q] at ho; cases ho
  | some l => rw [q] at ho; exact h l (List.mem_of_getElem? q) o ho
theorem putB_inv {A : List (List Nat)} (hA : AOk A) : ∀ (n p : Nat) (st : PSt), p < A.length → PInv A.length st → PInv A.length (putB A n p st).2 ∧ st.2.length ≤ (putB A n p st).2.2.length
  | 0, _, st, _, I => ⟨I, Nat.le_refl _⟩
  | n + 1, p, st, hp, I => putLoop_inv hp (fun p' st' h1 h2 => putB_inv hA n p' st' h1 h2) _ st (hA.at p) I
def aK (m : List (Nat × Nat)) : List (Key × V) := m.map fun p => (Sum.inl (p.1 : Int), V.int (p.2 : Nat))
theorem aK_val (m : List (Nat × Nat)) (o : Nat) : valV (aK m) (Sum.inl (o : Int)) = (lookM m o).map fun (p : Nat) => V.int (p : Int) := by
  induction m with
  | nil => rfl
  | cons p m ih =>
    by_cases z : p.1 = o
    · have e1 : valV (aK (p :: m)) (Sum.inl (o : Int)) = some (V.int (p.2 : Nat)) := by
        unfold valV aK
        rw [List.map_cons, List.find?_cons_of_pos (by simp [z])]; rfl
      have e2 : lookM (p :: m) o = some p.2 := by
        unfold lookM
        rw [List.find?_cons_of_pos (by simp [z])]; rfl
      rw [e1, e2]; rfl
    · have ne : ¬ (Sum.inl (p.1 : Int) : Key) = Sum.inl (o : Int) := fun y => z (by have := Sum.inl.inj y; omega)
      have e1 : valV (aK (p :: m)) (Sum.inl (o : Int)) = valV (aK m) (Sum.inl (o : Int)) := by
        unfold aK
        rw [List.map_cons, valV_neg ne]
      have e2 : lookM (p :: m) o = lookM m o := by
        unfold lookM
        rw [List.find?_cons_of_neg (by simpa using z)]
      rw [e1, e2, ih]
theorem aK_put (m : List (Nat × Nat)) (o p : Nat) : putK (aK m) (Sum.inl (o : Int)) (V.int (p : Nat)) = aK (putM m o p) := by
  unfold putK putM aK
  have e : ((m.map fun p => ((Sum.inl (p.1 : Int) : Key), V.int (p.2 : Nat))).any fun kv => decide (kv.1 = Sum.inl (o : Int))) = m.any fun q => decide (q.1 = o) := by
    rw [List.any_map]
    congr 1
    funext q
    show decide ((Sum.inl (q.1 : Int) : Key) = Sum.inl (o : Int)) = decide (q.1 = o)
    rw [Bool.eq_iff_iff, decide_eq_true_eq, decide_eq_true_eq]
    constructor
    · intro h; have := Sum.inl.inj h; omega
    · intro h; rw [h]
  rw [e]
  split
  · rw [List.map_map, List.map_map]
    refine List.map_congr_left fun q _ => ?_
    show (if (Sum.inl (q.1 : Int) : Key) = Sum.inl (o : Int) then ((Sum.inl (q.1 : Int) : Key), V.int (p : Nat)) else (Sum.inl (q.1 : Int), V.int (q.2 : Nat))) = ((Sum.inl ((if q.1 = o then (q.1, p) else q).1 : Int) : Key), V.int ((if q.1 = o then (q.1, p) else q).2 : Nat))
    by_cases z : q.1 = o
    · rw [if_pos (by rw [z]), if_pos z]
    · rw [if_neg (fun y => z (by have := Sum.inl.inj y; omega)), if_neg z]
  · rw [List.map_append]; rfl
def tI (tr : List Nat) : List V := tr.map fun (o : Nat) => V.int (o : Int)
/-- put_behind's promise at level n -/
def spPut (n : Nat) : Sp := fun vs H Q _ => vs.length = 4 ∧ ∃ (A : List (List Nat)) (place : Nat) (m : List (Nat × Nat)) (tr : List Nat) (vA : V) (D T : Addr) (G : Hp), vs = [vA, .int (place : Nat), .ref D, .ref T] ∧ Ex G H ∧ Rp G (nnI A) vA ∧ G D = none ∧ G T = none ∧ H D = some (.dK (aK m)) ∧ H T = some (.lst (tI tr)) ∧
  AOk A ∧ A.length ≤ 1024 ∧ place < A.length ∧ PInv A.length (m, tr) ∧ A.length + 1 ≤ n + tr.length ∧
  ∀ G' H', Gr (fun a => a = D ∨ a = T) G H G' H' → G' D = none → G' T = none → H' D = some (.dK (aK (putB A n place (m, tr)).2.1)) → H' T = some (.lst (tI (putB A n place (m, tr)).2.2)) → Q (.bl (putB A n place (m, tr)).1) H'
theorem PInv.tr_len {N : Nat} {st : PSt} (I : PInv N st) : st.2.length ≤ N := by
  have := lenLe I.tn (m := List.range N) fun x hx => List.mem_range.mpr (I.tl x hx)
  rwa [List.length_range] at this
theorem PInv.m_len {N : Nat} {st : PSt} (I : PInv N st) : st.1.length ≤ N := by
  have := lenLe I.nd (m := List.range N) fun x hx => by
    obtain ⟨p, hp, rfl⟩ := List.mem_map.mp hx
    exact List.mem_range.mpr (I.lt p hp).1
  rwa [List.length_range, List.length_map] at this
section
variable {P : Program} {w : World} {K : PySem.W.Frag} {mg : Str → Option Value} {base : Heap}
theorem ok_put_behind (M : Mo mg) (h : Df K mg "put_behind" s_put_behind p_put_behind) : ∀ n, At P w K mg base "put_behind" s_put_behind p_put_behind n (spPut n)
  | 0 => by
    obtain ⟨f, fd, F, b, g⟩ := h
    have no : ∀ vs H Q E, ¬ spPut 0 vs H Q E := fun vs H Q E ⟨_, A, place, m, tr, vA, D, T, G, _, _, _, _, _, _, _, _, _, _, I, hn, _⟩ => by
      have := I.tr_len
      simp only at this
      omega
    exact ⟨f, fd, F, b, g, fun vs H Q E h => (no _ _ _ _ h).elim, fun _ _ _ _ _ _ _ _ _ _ _ _ _ h => (no _ _ _ _ h).elim⟩
  | n + 1 => by
    obtain ⟨f_put_behind, fd_put_behind, F_put_behind, b_put_behind, g_put_behind, G_put_behind⟩ := ok_put_behind M h n
    refine ⟨f_put_behind, fd_put_behind, F_put_behind, b_put_behind, g_put_behind, F_put_behind.ok c_put_behind (fun vs H Q E h => h.1) (fun cdv A outer s H vs Q E hr h => ?_)⟩
    obtain ⟨_, Af, place, m, tr, vA, D, T, G, rfl, e, rA, gD, gT, hD, hT, hA, hAl, hpl, I, hn, q⟩ := h
    refine ⟨_, (pss_cons
    (ps_for PassesOwn.never rfl (k_seq K (pe_ix (k_ixL K) (pv 0) (pv 1) (fun _ _ => rfl))) (pg_name (i := 4) c_put_behind.nd rfl (by first | exact .inl rfl | exact .inr rfl)) (pss_one
        (ps_if (pt_cmpR (k_notIn K) (pv 4) (pv 3) (by rfl)) (pss_cons
            (ps_expr (pe_bm PySem.F.plainAttrs_list PySem.F.slot_list_append PySem.F.type_list_append mt_append (pv 3) (pa_cons (pv 4) pa_nil)))
            (pss_one
            (ps_if (PW.pt (pw_or (pt_cmp (pc_dnotin (hu1 hr) (pv 4) (pv 2))) (pw_or1 (pt_val (pe_call G_put_behind (hr.mono (by omega)) (by rfl) g_put_behind F_put_behind.kp b_put_behind .nil pass0 (pa_cons (pv 0) (pa_cons (pe_dget (hu1 hr) (pv 2) (pv 4) (fun _ _ => rfl)) (pa_cons (pv 2) (pa_cons (pv 3) pa_nil))))))))) (pss_cons
                (ps_dput (hu1 hr) (pv 2) (pv 4) (pv 1) rfl)
                (pss_one
                (ps_ret pe_bl))) pss_nil))) pss_nil)))
    (pss_one
    (ps_ret pe_bl))), ?_⟩
    have hrow : Af[place]? = some (Af.getD place []) := by
      rw [List.getD_eq_getElem?_getD, List.getElem?_eq_getElem hpl]; rfl
    have gi : GI (iSeq K (tOp (rIxL K) (tVar 0) (tVar 1))) (start n_put_behind [vA, .int (place : Nat), .ref D, .ref T]) G (nI (Af.getD place [])) :=
      gi_seqL (gd_op (gd_var (i := 0) rfl rA) (gd_var (i := 1) rfl (.int _)) (ro_ixL (d := .lst (nI (Af.getD place []))) (atI_nat (by rw [List.getElem?_map, hrow]; rfl))))
    have neDT : D ≠ T := fun z => by rw [z, hT] at hD; cases hD
    have hroww := hA.at place
    generalize hrw : Af.getD place [] = row at gi hroww
    have hres : putB Af (n + 1) place (m, tr) = putLoop (putB Af n) place row (m, tr) := by
      show putLoop (putB Af n) place (Af.getD place []) (m, tr) = _
      rw [hrw]
    rw [hres] at q
    refine sd_for gi e fun G1 H1 g1 => ?_
    have rl : (nI row).length = row.length := by unfold nI; rw [List.length_map]
    rw [rl]
    refine ⟨fun i σ' G' H' => ∃ m' tr' h4, σ' = [some vA, some (.int (place : Nat)), some (.ref D), some (.ref T), h4] ∧ Gr (fun a => a = D ∨ a = T) G H G' H' ∧ Ex G1 G' ∧ G' D = none ∧ G' T = none ∧ H' D = some (.dK (aK m')) ∧ H' T = some (.lst (tI tr')) ∧ PInv Af.length (m', tr') ∧ tr.length ≤ tr'.length ∧
      putLoop (putB Af n) place (row.drop i) (m', tr') = putLoop (putB Af n) place row (m, tr),
      ⟨m, tr, none, rfl, g1.wk0, .refl _, g1.off gD hD, g1.off gT hT, g1.at0 hD, g1.at0 hT, I, Nat.le_refl _, by rw [List.drop_zero]⟩, ?_, ?_, ?_⟩
    · rintro i σ' G' H' ⟨m', tr', h4, rfl, gg, e1, _⟩
      exact ⟨e1, gg.gh⟩
    · rintro i dd σ' G' H' v4 G2 H2 hdd ⟨m', tr', h4, rfl, gg, e1, gD1, gT1, hD1, hT1, I1, tl1, hres1⟩ g2 r4
      obtain ⟨o, ho, rfl⟩ : ∃ o : Nat, row[i]? = some o ∧ dd = .int (o : Int) := by
        unfold nI at hdd
        rw [List.getElem?_map] at hdd
        cases q9 : row[i]? with
        | none => rw [q9] at hdd; cases hdd
        | some o => rw [q9] at hdd; cases hdd; exact ⟨o, rfl, rfl⟩
      have hon := hroww o (List.mem_of_getElem? ho)
      have hdrop : row.drop i = o :: row.drop (i + 1) := by
        obtain ⟨hi, ei⟩ := List.getElem?_eq_some_iff.mp ho
        rw [List.drop_eq_getElem_cons hi, ei]
      rw [hdrop] at hres1
      cases r4
      have gg2 := gg.trans g2.wk0
      have gD2 := g2.off gD1 hD1
      have gT2 := g2.off gT1 hT1
      have hD2 := g2.at0 hD1
      have hT2 := g2.at0 hT1
      have rA2 := rA.mono gg2.gg
      conv at hres1 => lhs; unfold putLoop
      show tIfS _ _ _ _ _ _
      unfold tIfS
      refine GT.own (G := G2) (p := T) (o := .lst (tI tr')) (b := notB true (decide ((o : Int) ∈ tr'.map fun (i : Nat) => (i : Int)))) ?_ g2.gh gT2 hT2 (by intro _ z; cases z) _ fun G3 H3 g3 => ?_
      · have rl : Rp (upd G2 T (.lst (tI tr'))) (.lst ((tr'.map fun (i : Nat) => (i : Int)).map .int)) (.ref T) := by
          refine .lst upd_same ?_
          have := Rps.of_ints (G := upd G2 T (.lst (tI tr'))) (tr'.map fun (i : Nat) => (i : Int))
          rw [List.map_map (g := V.int)] at this
          exact this
        exact gt_B (gd_op (gd_var (σ := [some vA, some (V.int (place : Nat)), some (V.ref D), some (V.ref T), some (V.int (o : Nat))]) (i := 4) rfl (.int _)) (gd_var (i := 3) rfl rl) ro_inLI)
      have gg3 := gg2.trans g3.wk0
      have gD3 := g3.off gD2 hD2
      have gT3 := g3.off gT2 hT2
      have hD3 := g3.at0 hD2
      have hT3 := g3.at0 hT2
      have emem : decide ((o : Int) ∈ tr'.map fun (i : Nat) => (i : Int)) = decide (o ∈ tr') := by
        rw [Bool.eq_iff_iff, decide_eq_true_eq, decide_eq_true_eq, List.mem_map]
        constructor
        · rintro ⟨x, hx, ex⟩
          have : x = o := by omega
          exact this ▸ hx
        · intro h; exact ⟨o, h, rfl⟩
      rw [emem]
      by_cases hin : o ∈ tr'
      · rw [show notB true (decide (o ∈ tr')) = false by rw [decide_eq_true hin]; rfl]
        rw [if_pos hin] at hres1
        exact iteF ⟨G3, m', tr', _, rfl, gg3, e1.trans (g2.gg.trans g3.gg), gD3, gT3, hD3, hT3, I1, tl1, hres1⟩
      · rw [show notB true (decide (o ∈ tr')) = true by rw [decide_eq_false hin]; rfl]
        rw [if_neg hin] at hres1
        refine iteT ?_
        have I2 := I1.try_ hon hin
        have tl2 : tr.length < (tr' ++ [o]).length := by rw [List.length_append, List.length_singleton]; omega
        have trl := I1.tr_len
        have ml := I1.m_len
        simp only at trl ml
        refine s_append (i := 3) rfl (gd_var (i := 4) (d := .int (o : Nat)) rfl (.int _)) g3.gh hT3 (by unfold tI; rw [List.length_map]; omega) fun v5 G4 H4 g4 r5 hT4 => ?_
        cases r5
        have hD4 := g4.at0 hD3
        have gD4 := g4.off gD3 hD3
        have gT4 := g4.off gT3 hT3
        have gg5 := (gg3.trans g4.wk0).put (p := T) (o := .lst (tI (tr' ++ [o]))) (.inr (.inr rfl)) gT4
        have etr : tI tr' ++ [V.int (o : Nat)] = tI (tr' ++ [o]) := by unfold tI; rw [List.map_append]; rfl
        rw [etr]
        have hD5 : (upd H4 T (.lst (tI (tr' ++ [o])))) D = some (.dK (aK m')) := by rw [upd_ne neDT]; exact hD4
        have rA4 := rA2.mono (g3.gg.trans g4.gg)
        have eval := aK_val m' o
        -- the end when the place is taken
        have fin : ∀ (m2 : List (Nat × Nat)) (tr2 : List Nat) (G6 H6 : Hp), Gr (fun a => a = D ∨ a = T) G H G6 H6 → G6 D = none → G6 T = none → H6 D = some (.dK (aK m2)) → H6 T = some (.lst (tI tr2)) → m2.length ≤ 1024 → putLoop (putB Af n) place row (m, tr) = (true, (putM m2 o place, tr2)) →
            ∀ En : Ends, En.rt = Q → (tSeq (sDPut (tVar 2) (tVar 4) (tVar 1)) (tRet (tC (.bl true)))) En [some vA, some (V.int (place : Nat)), some (V.ref D), some (V.ref T), some (V.int (o : Nat))] H6 := fun m2 tr2 G6 H6 gg6 gD6 gT6 hD6 hT6 ml2 hr2 En hEn => by
          refine s_dputK (i := 2) (x := Sum.inl (o : Int)) (d := .int (place : Nat)) rfl (gd_var (i := 1) rfl (.int _)) (gd_var (i := 4) (d := .int (o : Nat)) rfl (.int _)) gg6.gh hD6 (by unfold aK; rw [List.length_map]; omega) fun v7 G7 H7 g7 r7 hD7 => ?_
          cases r7
          rw [aK_put]
          show En.rt _ _
          rw [hEn]
          have gD7 := g7.off gD6 hD6
          have gT7 := g7.off gT6 hT6
          have gg7 := (gg6.trans g7.wk0).put (p := D) (o := .dK (aK (putM m2 o place))) (.inr (.inl rfl)) gD7
          have := q _ _ gg7 gD7 gT7 (by rw [hr2]; exact upd_same) (by rw [hr2, upd_ne (Ne.symm neDT)]; exact g7.at0 hT6)
          rw [hr2] at this
          exact this
        dsimp only
        unfold tOr tB tDNotIn
        refine ⟨_, rfl, _, rfl, D, _, rfl, .inl ⟨aK m', Sum.inl (o : Int), .inl hD5, rfl, rfl⟩, _, rfl, ?_⟩
        rw [eval]
        cases e6 : lookM m' o with
        | none =>
          rw [e6] at hres1
          refine iteT (iteT ?_)
          exact fin m' (tr' ++ [o]) _ _ gg5 gD4 gT4 hD5 upd_same (by omega) hres1.symm _ rfl
        | some p' =>
          rw [e6] at hres1
          refine iteF ?_
          have hp' := (I1.lt _ (lookM_some e6)).2
          refine ⟨vA, rfl, _, rfl, _, rfl, D, V.int (p' : Nat), rfl, .inl ⟨aK m', Sum.inl (o : Int), .inl hD5, rfl, ?_⟩, _, rfl, _, rfl, ?_⟩
          · rw [eval, e6]; rfl
          refine ⟨rfl, Af, p', m', tr' ++ [o], vA, D, T, G4, rfl, gg5.gh, rA4, gD4, gT4, hD5, upd_same, hA, hAl, hp', I2, by omega, fun G8 H8 g8 gD8 gT8 hD8 hT8 => ?_⟩
          have inv := putB_inv hA n p' (m', tr' ++ [o]) hp' I2
          have gg8 := gg5.trans g8
          refine ⟨_, rfl, ?_⟩
          simp only at hres1
          cases e9 : putB Af n p' (m', tr' ++ [o]) with
          | mk bb st2 =>
            rw [e9] at hres1 hD8 hT8 inv
            have ml2 := inv.1.m_len
            cases bb with
            | true =>
              refine iteT ?_
              exact fin st2.1 st2.2 G8 H8 gg8 gD8 gT8 hD8 hT8 (by simp only at ml2; omega) hres1.symm _ rfl
            | false =>
              refine iteF ?_
              have il := inv.2
              simp only at il
              exact ⟨G8, st2.1, st2.2, _, rfl, gg8, e1.trans (g2.gg.trans (g3.gg.trans (g4.gg.trans g8.gg))), gD8, gT8, hD8, hT8, inv.1, by omega, hres1⟩
    · rintro σ' G' H' ⟨m', tr', h4, rfl, gg, e1, gD1, gT1, hD1, hT1, I1, tl1, hres1⟩
      rw [List.drop_length] at hres1
      have := q G' H' gg gD1 gT1 (by rw [← hres1]; exact hD1) (by rw [← hres1]; exact hT1)
      rw [← hres1] at this
      exact this
end
end Up

/-! text UpMat -/
set_option Elab.async false
set_option linter.all false
set_option maxRecDepth 100000
set_option maxHeartbeats 2000000
/-! matching, in plain words -/
namespace Up
open PySem
theorem lookM_none {m : List (Nat × Nat)} {o : Nat} : lookM m o = none ↔ o ∉ m.map (·.1) := by
  unfold lookM
  rw [Option.map_eq_none_iff, List.find?_eq_none, List.mem_map]
  constructor
  · rintro h ⟨p, hp, e⟩
    exact h p hp (by simpa using e)
  · intro h p hp e
    exact h ⟨p, hp, by simpa using e⟩
theorem lookM_cons (p : Nat × Nat) (m : List (Nat × Nat)) (x : Nat) : lookM (p :: m) x = if p.1 = x then some p.2 else lookM m x := by
  unfold lookM
  by_cases z : p.1 = x
  · rw [if_pos z, List.find?_cons_of_pos (by simpa using z)]; rfl
  · rw [if_neg z, List.find?_cons_of_neg (by simpa using z)]
theorem lookM_snoc (m : List (Nat × Nat)) (o q x : Nat) (h : o ∉ m.map (·.1)) : lookM (m ++ [(o, q)]) x = if x = o then some q else lookM m x := by
  induction m with
  | nil =>
    show lookM ((o, q) :: []) x = _
    rw [lookM_cons]
    by_cases z : o = x
    · rw [if_pos z, if_pos z.symm]
    · rw [if_neg z, if_neg (Ne.symm z)]
  | cons p m ih =>
    rw [List.cons_append, lookM_cons, lookM_cons, ih fun z => h (List.mem_cons_of_mem _ z)]
    by_cases z : p.1 = x
    · have ne : x ≠ o := fun y => h (by rw [← y, ← z]; exact List.mem_cons_self)
      rw [if_pos z, if_neg ne, if_pos z]
    · rw [if_neg z, if_neg z]
theorem lookM_over (m : List (Nat × Nat)) (o q x : Nat) (h : o ∈ m.map (·.1)) : lookM (m.map fun p => if p.1 = o then (p.1, q) else p) x = if x = o then some q else lookM m x := by
  induction m with
  | nil => cases h
  | cons p m ih =>
    rw [List.map_cons, lookM_cons, lookM_cons]
    by_cases z : p.1 = o
    · rw [if_pos z]
      by_cases y : p.1 = x
      · rw [if_pos y, if_pos (y.symm.trans z)]
      · have ne : x ≠ o := fun w => y (z.trans w.symm)
        rw [if_neg y, if_neg ne, if_neg y]
        by_cases hm : o ∈ m.map (·.1)
        · rw [ih hm, if_neg ne]
        · have e : m.map (fun p => if p.1 = o then (p.1, q) else p) = m := by
            conv => rhs; rw [← List.map_id m]
            refine List.map_congr_left fun r hr => if_neg fun w => hm (List.mem_map.mpr ⟨r, hr, w⟩)
          rw [e]
    · rw [if_neg z]
      have hm : o ∈ m.map (·.1) := (List.mem_cons.mp h).resolve_left (fun w => z w.symm)
      by_cases y : p.1 = x
      · have ne : x ≠ o := fun w => z (y.trans w)
        rw [if_pos y, if_neg ne, if_pos y]
      · rw [if_neg y, ih hm, if_neg y]
theorem lookM_put (m : List (Nat × Nat)) (o q x : Nat) : lookM (putM m o q) x = if x = o then some q else lookM m x := by
  unfold putM
  have e : (m.any fun q => decide (q.1 = o)) = true ↔ o ∈ m.map (·.1) := by
    rw [List.any_eq_true, List.mem_map]
    simp only [decide_eq_true_eq]
  by_cases h : o ∈ m.map (·.1)
  · rw [if_pos (e.mpr h)]; exact lookM_over m o q x h
  · rw [if_neg (fun z => h (e.mp z))]; exact lookM_snoc m o q x h
theorem putM_new {m : List (Nat × Nat)} {o q : Nat} (h : lookM m o = none) : putM m o q = m ++ [(o, q)] := by
  unfold putM
  rw [if_neg]
  intro z
  obtain ⟨x, hx, e⟩ := List.any_eq_true.mp z
  exact lookM_none.mp h (List.mem_map.mpr ⟨x, hx, by simpa using e⟩)
theorem over_vals : ∀ {m : List (Nat × Nat)} {o q p : Nat}, (m.map (·.1)).Nodup → lookM m o = some p → (p :: (m.map fun x => if x.1 = o then (x.1, q) else x).map (·.2)).Perm (q :: m.map (·.2))
  | [], _, _, _, _, h => by cases h
  | x :: m, o, q, p, nd, h => by
    obtain ⟨n1, n2⟩ := List.nodup_cons.mp nd
    rw [lookM_cons] at h
    by_cases z : x.1 = o
    · rw [if_pos z] at h
      cases h
      have e : m.map (fun p => if p.1 = o then (p.1, q) else p) = m := by
        conv => rhs; rw [← List.map_id m]
        refine List.map_congr_left fun r hr => if_neg fun w => n1 (List.mem_map.mpr ⟨r, hr, w.trans z.symm⟩)
      rw [List.map_cons, if_pos z, e, List.map_cons, List.map_cons]
      exact List.Perm.swap _ _ _
    · rw [if_neg z] at h
      have ih := over_vals (q := q) n2 h
      rw [List.map_cons, if_neg z, List.map_cons, List.map_cons]
      exact (List.Perm.swap _ _ _).trans ((ih.cons x.2).trans (List.Perm.swap _ _ _))
theorem putM_vals {m : List (Nat × Nat)} {o q p : Nat} (nd : (m.map (·.1)).Nodup) (h : lookM m o = some p) : (p :: (putM m o q).map (·.2)).Perm (q :: m.map (·.2)) := by
  have hm : o ∈ m.map (·.1) := List.mem_map.mpr ⟨_, lookM_some h, rfl⟩
  unfold putM
  rw [if_pos]
  · exact over_vals nd h
  · obtain ⟨x, hx, e⟩ := List.mem_map.mp hm
    exact List.any_eq_true.mpr ⟨x, hx, by simpa using e⟩
/-- a set of places behind, all taken, whose takers look at nothing else -/
def Cl (A : List (List Nat)) (m : List (Nat × Nat)) (C : Nat → Prop) : Prop := ∀ o, C o → ∃ p, lookM m o = some p ∧ ∀ x ∈ A.getD p [], C x
/-- what one try tells -/
structure RSp (A : List (List Nat)) (place : Nat) (l : List Nat) (st : PSt) (r : Bool × PSt) : Prop where
  a : ∀ o ∈ st.2, o ∈ r.2.2
  b : ∀ o ∈ st.2, lookM r.2.1 o = lookM st.1 o
  c : r.1 = true → (r.2.1.map (·.2)).Perm (place :: st.1.map (·.2)) ∧ ∀ C, Cl A st.1 C → ∀ o, C o → lookM r.2.1 o = lookM st.1 o
  d : r.1 = false → r.2.1 = st.1 ∧ (∀ o ∈ l, o ∈ r.2.2) ∧ ∀ o ∈ r.2.2, o ∉ st.2 → ∃ p, lookM st.1 o = some p ∧ ∀ x ∈ A.getD p [], x ∈ r.2.2
  e : ∀ C, Cl A st.1 C → (∀ x ∈ l, C x) → r.1 = false
  f : (∀ p ∈ st.1, p.1 ∈ A.getD p.2 []) → ∀ p ∈ r.2.1, p.1 ∈ A.getD p.2 []
theorem putLoop_sp {A : List (List Nat)} {N place k : Nat} {again : Nat → PSt → Bool × PSt} (hpl : place < N) (ai : ∀ p st, p < N → PInv N st → PInv N (again p st).2 ∧ st.2.length ≤ (again p st).2.2.length)
    (ha : ∀ p st, p < N → PInv N st → k < st.2.length → RSp A p (A.getD p []) st (again p st)) :
    ∀ (l : List Nat) (st : PSt), (∀ o ∈ l, o < N ∧ o ∈ A.getD place []) → PInv N st → k ≤ st.2.length → RSp A place l st (putLoop again place l st)
  | [], st, _, I, _ => ⟨fun o h => h, fun _ _ => rfl, (fun h => nomatch h), fun _ => ⟨rfl, (fun o h => nomatch h), fun o h n => absurd h n⟩, fun _ _ _ => rfl, fun h => h⟩
  | o :: r, st, hl, I, hk => by
    have ho := hl o List.mem_cons_self
    have hr := fun x hx => hl x (List.mem_cons_of_mem _ hx)
    unfold putLoop
    by_cases h : o ∈ st.2
    · rw [if_pos h]
      have R := putLoop_sp hpl ai ha r st hr I hk
      refine ⟨R.a, R.b, R.c, fun z => ?_, fun C hC hx => R.e C hC fun x hx' => hx x (List.mem_cons_of_mem _ hx'), R.f⟩
      obtain ⟨d1, d2, d3⟩ := R.d z
      refine ⟨d1, fun x hx => ?_, d3⟩
      rcases List.mem_cons.mp hx with e | e
      · rw [e]; exact R.a o h
      · exact d2 x e
    · rw [if_neg h]
      have I1 := I.try_ ho.1 h
      have l1 : (st.2 ++ [o]).length = st.2.length + 1 := by simp
      cases q : lookM st.1 o with
      | none =>
        refine ⟨fun x hx => List.mem_append_left _ hx, fun x hx => ?_, fun _ => ⟨?_, fun C hC x hx => ?_⟩, (fun z => nomatch z), fun C hC hx => ?_, fun hf p hp => ?_⟩
        · show lookM (putM st.1 o place) x = _
          rw [lookM_put, if_neg (fun (z : x = o) => h (by rw [← z]; exact hx))]
        · show ((putM st.1 o place).map (·.2)).Perm _
          rw [putM_new q, List.map_append]
          exact List.perm_append_singleton _ _
        · show lookM (putM st.1 o place) x = _
          rw [lookM_put, if_neg]
          intro z
          obtain ⟨p, hp, _⟩ := hC x hx
          rw [z, q] at hp; cases hp
        · obtain ⟨p, hp, _⟩ := hC o (hx o List.mem_cons_self)
          rw [q] at hp; cases hp
        · have hp' : p ∈ putM st.1 o place := hp
          rw [putM_new q] at hp'
          rcases List.mem_append.mp hp' with z | z
          · exact hf p z
          · rw [List.mem_singleton.mp z]; exact ho.2
      | some p' =>
        have hp' := (I.lt _ (lookM_some q)).2
        have R1 := ha p' (st.1, st.2 ++ [o]) hp' I1 (by rw [l1]; omega)
        have i1 := ai p' (st.1, st.2 ++ [o]) hp' I1
        simp only
        cases e2 : again p' (st.1, st.2 ++ [o]) with
        | mk bb st2 =>
          rw [e2] at R1 i1
          have oin : o ∈ st.2 ++ [o] := List.mem_append_right _ (List.mem_singleton.mpr rfl)
          cases bb with
          | true =>
            obtain ⟨c1, c2⟩ := R1.c rfl
            have hlo : lookM st2.1 o = some p' := (R1.b o oin).trans q
            refine ⟨fun x hx => R1.a x (List.mem_append_left _ hx), fun x hx => ?_, fun _ => ⟨?_, fun C hC x hx => ?_⟩, (fun z => nomatch z), fun C hC hx => ?_, fun hf p hp => ?_⟩
            · show lookM (putM st2.1 o place) x = _
              rw [lookM_put, if_neg (fun (z : x = o) => h (by rw [← z]; exact hx))]
              exact R1.b x (List.mem_append_left _ hx)
            · have h1 := putM_vals (q := place) i1.1.nd hlo
              have h2 : (p' :: (putM st2.1 o place).map (·.2)).Perm (p' :: place :: st.1.map (·.2)) := h1.trans ((c1.cons place).trans (List.Perm.swap _ _ _))
              exact List.Perm.cons_inv h2
            · show lookM (putM st2.1 o place) x = _
              rw [lookM_put]
              by_cases z : x = o
              · exfalso
                obtain ⟨p, hp, hcl⟩ := hC x hx
                rw [z, q] at hp
                cases hp
                have := R1.e C hC hcl
                cases this
              · rw [if_neg z]; exact c2 C hC x hx
            · exfalso
              obtain ⟨p, hp, hcl⟩ := hC o (hx o List.mem_cons_self)
              rw [q] at hp
              cases hp
              have := R1.e C hC hcl
              cases this
            · have hp2 : p ∈ putM st2.1 o place := hp
              rcases mem_putM hp2 with e | ⟨e, _⟩ | ⟨e, _⟩
              · rw [e]; exact ho.2
              · exact R1.f hf p e
              · exact R1.f hf p e
          | false =>
            obtain ⟨d1, d2, d3⟩ := R1.d rfl
            have il := i1.2
            simp only [l1] at il
            have d1' : st2.1 = st.1 := d1
            have R := putLoop_sp hpl ai ha r st2 hr i1.1 (by omega)
            refine ⟨fun x hx => R.a x (R1.a x (List.mem_append_left _ hx)), fun x hx => ?_, fun z => ?_, fun z => ?_, fun C hC hx => ?_, fun hf => ?_⟩
            · rw [R.b x (R1.a x (List.mem_append_left _ hx)), d1']
            · obtain ⟨c1, c2⟩ := R.c z
              rw [d1'] at c1 c2
              exact ⟨c1, c2⟩
            · obtain ⟨g1, g2, g3⟩ := R.d z
              rw [d1'] at g1 g3
              refine ⟨g1, fun x hx => ?_, fun x hx hn => ?_⟩
              · rcases List.mem_cons.mp hx with e | e
                · rw [e]; exact R.a o (R1.a o oin)
                · exact g2 x e
              · by_cases hx2 : x ∈ st2.2
                · by_cases hx3 : x ∈ st.2 ++ [o]
                  · rcases List.mem_append.mp hx3 with y | y
                    · exact absurd y hn
                    · rw [List.mem_singleton.mp y]
                      exact ⟨p', q, fun w hw => R.a w (d2 w hw)⟩
                  · obtain ⟨p, hp, hw⟩ := d3 x hx2 hx3
                    exact ⟨p, hp, fun w hw' => R.a w (hw w hw')⟩
                · exact g3 x hx hx2
            · have := R.e C (by rw [d1']; exact hC) fun x hx' => hx x (List.mem_cons_of_mem _ hx')
              exact this
            · refine R.f ?_
              rw [d1']; exact hf
theorem putB_sp {A : List (List Nat)} (hA : AOk A) : ∀ (n p : Nat) (st : PSt), p < A.length → PInv A.length st → A.length + 1 ≤ n + st.2.length → RSp A p (A.getD p []) st (putB A n p st)
  | 0, p, st, _, I, h => by have := I.tr_len; omega
  | n + 1, p, st, hp, I, h =>
    putLoop_sp (k := st.2.length) hp (fun p' st' h1 h2 => putB_inv hA n p' st' h1 h2) (fun p' st' h1 h2 h3 => putB_sp hA n p' st' h1 h2 (by omega)) _ st (fun o ho => ⟨hA.at p o ho, ho⟩) I (Nat.le_refl _)
/-- the whole matching -/
structure MInv (A : List (List Nat)) (i : Nat) (m : List (Nat × Nat)) : Prop where
  inv : PInv A.length (m, [])
  vn : (m.map (·.2)).Nodup
  vl : ∀ p ∈ m, p.2 < i
  ed : ∀ p ∈ m, p.1 ∈ A.getD p.2 []
  ex : ∃ (F : List Nat) (T : List Nat), F.Nodup ∧ T.Nodup ∧ (∀ f ∈ F, f < i ∧ f ∉ m.map (·.2) ∧ ∀ x ∈ A.getD f [], x ∈ T) ∧ Cl A m (· ∈ T) ∧ m.length + F.length = i
theorem matched_inv {A : List (List Nat)} (hA : AOk A) (hl : A.length ≤ 40) : ∀ i, i ≤ A.length → MInv A i ((List.range i).foldl (fun m p => (putB A 41 p (m, [])).2.1) [])
  | 0, _ => ⟨⟨List.nodup_nil, (fun p h => nomatch h), List.nodup_nil, (fun p h => nomatch h)⟩, List.nodup_nil, (fun p h => nomatch h), (fun p h => nomatch h), [], [], List.nodup_nil, List.nodup_nil, (fun p h => nomatch h), (fun p h => nomatch h), rfl⟩
  | i + 1, hi => by
    have R := matched_inv hA hl i (by omega)
    rw [List.range_succ, List.foldl_append]
    show MInv A (i + 1) (putB A 41 i ((List.range i).foldl (fun m p => (putB A 41 p (m, [])).2.1) [], [])).2.1
    generalize (List.range i).foldl (fun m p => (putB A 41 p (m, [])).2.1) [] = m at R
    have hlt : i < A.length := hi
    have S := putB_sp hA 41 i (m, []) hlt R.inv (by simp only [List.length_nil]; omega)
    have J := (putB_inv hA 41 i (m, []) hlt R.inv).1
    obtain ⟨F, T, fn, tn, hF, hT, hc⟩ := R.ex
    generalize putB A 41 i (m, []) = r at S J
    have J' : PInv A.length (r.2.1, []) := ⟨J.nd, J.lt, List.nodup_nil, (fun p h => nomatch h)⟩
    cases q : r.1 with
    | true =>
      obtain ⟨c1, c2⟩ := S.c q
      have ni : i ∉ m.map (·.2) := fun h => by
        obtain ⟨p, hp, e⟩ := List.mem_map.mp h
        have := R.vl p hp
        omega
      refine ⟨J', c1.nodup_iff.mpr (List.nodup_cons.mpr ⟨ni, R.vn⟩), fun p hp => ?_, S.f R.ed, F, T, fn, tn, fun f hf => ?_, fun o ho => ?_, ?_⟩
      · have : p.2 ∈ i :: m.map (·.2) := c1.mem_iff.mp (List.mem_map.mpr ⟨p, hp, rfl⟩)
        rcases List.mem_cons.mp this with e | e
        · omega
        · obtain ⟨p', hp', e'⟩ := List.mem_map.mp e
          have := R.vl p' hp'
          omega
      · obtain ⟨f1, f2, f3⟩ := hF f hf
        refine ⟨by omega, fun h => ?_, f3⟩
        rcases List.mem_cons.mp (c1.mem_iff.mp h) with e | e
        · omega
        · exact f2 e
      · obtain ⟨p, hp, hx⟩ := hT o ho
        exact ⟨p, (c2 _ hT o ho).trans hp, hx⟩
      · have := c1.length_eq
        rw [List.length_map, List.length_cons, List.length_map] at this
        simp only at this
        omega
    | false =>
      obtain ⟨d1, d2, d3⟩ := S.d q
      have d1' : r.2.1 = m := d1
      refine ⟨J', by rw [d1']; exact R.vn, fun p hp => ?_, by rw [d1']; exact R.ed, F ++ [i], dedup (T ++ r.2.2), nodup_snoc fn (fun h => ?_), nodup_dedup _, fun f hf => ?_, fun o ho => ?_, ?_⟩
      · rw [d1'] at hp
        have := R.vl p hp
        omega
      · have := (hF i h).1
        omega
      · rw [d1']
        rcases List.mem_append.mp hf with z | z
        · obtain ⟨f1, f2, f3⟩ := hF f z
          exact ⟨by omega, f2, fun x hx => mem_dedup.mpr (List.mem_append_left _ (f3 x hx))⟩
        · rw [List.mem_singleton.mp z]
          refine ⟨Nat.lt_succ_self _, fun h => ?_, fun x hx => mem_dedup.mpr (List.mem_append_right _ (d2 x hx))⟩
          obtain ⟨p, hp, e⟩ := List.mem_map.mp h
          have := R.vl p hp
          omega
      · rw [d1']
        rcases List.mem_append.mp (mem_dedup.mp ho) with z | z
        · obtain ⟨p, hp, hx⟩ := hT o z
          exact ⟨p, hp, fun x hx' => mem_dedup.mpr (List.mem_append_left _ (hx x hx'))⟩
        · obtain ⟨p, hp, hx⟩ := d3 o z (by simp)
          exact ⟨p, hp, fun x hx' => mem_dedup.mpr (List.mem_append_right _ (hx x hx'))⟩
      · rw [d1', List.length_append, List.length_singleton]; omega
/-- places of which none stands behind another, as many as are behind none in the matching -/
theorem antichain {A : List (List Nat)} (hA : AOk A) (hl : A.length ≤ 40) : ∃ X : List Nat, X.Nodup ∧ (∀ x ∈ X, x < A.length) ∧ (∀ x ∈ X, ∀ y ∈ X, y ∉ A.getD x []) ∧ A.length ≤ (matchedM A).length + X.length := by
  have R := matched_inv hA hl A.length (Nat.le_refl _)
  change MInv A A.length (matchedM A) at R
  obtain ⟨F, T, fn, tn, hF, hT, hc⟩ := R.ex
  generalize matchedM A = m at R hF hT hc
  have get : ∀ o ∈ T, ∃ p, lookM m o = some p ∧ ∀ x ∈ A.getD p [], x ∈ T := hT
  let g : Nat → Nat := fun o => (lookM m o).getD 0
  have hg : ∀ o ∈ T, lookM m o = some (g o) := fun o ho => by
    obtain ⟨p, hp, _⟩ := get o ho
    show lookM m o = some ((lookM m o).getD 0)
    rw [hp]; rfl
  have inj : ∀ o ∈ T, ∀ o' ∈ T, g o = g o' → o = o' := fun o ho o' ho' e => by
    have h1 := lookM_some (hg o ho)
    have h2 := lookM_some (hg o' ho')
    rw [← e] at h2
    have : ∀ {l : List (Nat × Nat)}, (l.map (·.2)).Nodup → ∀ a b v, (a, v) ∈ l → (b, v) ∈ l → a = b := by
      intro l
      induction l with
      | nil => intro _ a b v h; cases h
      | cons x l ih =>
        intro nd a b v h1 h2
        obtain ⟨n1, n2⟩ := List.nodup_cons.mp nd
        rcases List.mem_cons.mp h1 with e1 | e1
        · rcases List.mem_cons.mp h2 with e2 | e2
          · have := e1.trans e2.symm
            exact congrArg Prod.fst this
          · exact absurd (List.mem_map.mpr ⟨_, e2, by rw [← e1]⟩) n1
        · rcases List.mem_cons.mp h2 with e2 | e2
          · exact absurd (List.mem_map.mpr ⟨_, e1, by rw [← e2]⟩) n1
          · exact ih n2 a b v e1 e2
    exact this R.vn o o' _ h1 h2
  have Sn : (F ++ T.map g).Nodup := by
    rw [List.nodup_append]
    refine ⟨fn, ?_, fun a ha b hb e => ?_⟩
    · have key : ∀ {l : List Nat}, l.Nodup → (∀ o ∈ l, o ∈ T) → (l.map g).Nodup := by
        intro l
        induction l with
        | nil => intro _ _; exact List.nodup_nil
        | cons x l ih =>
          intro nd hs
          obtain ⟨n1, n2⟩ := List.nodup_cons.mp nd
          rw [List.map_cons]
          refine List.nodup_cons.mpr ⟨fun h => ?_, ih n2 fun o ho => hs o (List.mem_cons_of_mem _ ho)⟩
          obtain ⟨y, hy, e⟩ := List.mem_map.mp h
          exact n1 (inj y (hs y (List.mem_cons_of_mem _ hy)) x (hs x List.mem_cons_self) e ▸ hy)
      exact key tn fun _ h => h
    · obtain ⟨o, ho, e2⟩ := List.mem_map.mp hb
      refine (hF a ha).2.1 ?_
      rw [e, ← e2]
      exact List.mem_map.mpr ⟨_, lookM_some (hg o ho), rfl⟩
  have Sx : ∀ s ∈ F ++ T.map g, s < A.length ∧ ∀ x ∈ A.getD s [], x ∈ T := fun s hs => by
    rcases List.mem_append.mp hs with z | z
    · exact ⟨(hF s z).1, (hF s z).2.2⟩
    · obtain ⟨o, ho, e⟩ := List.mem_map.mp z
      obtain ⟨p, hp, hx⟩ := get o ho
      have : p = s := by
        have h1 := hg o ho
        rw [hp] at h1
        rw [← e]; exact Option.some.inj h1
      rw [← this]
      exact ⟨R.vl _ (lookM_some hp), hx⟩
  refine ⟨(F ++ T.map g).filter fun x => !decide (x ∈ T), List.Pairwise.filter _ Sn, fun x hx => (Sx x (List.mem_filter.mp hx).1).1, fun x hx y hy h => ?_, ?_⟩
  · have h1 := (List.mem_filter.mp hy).2
    simp only [Bool.not_eq_true', decide_eq_false_iff_not] at h1
    exact h1 ((Sx x (List.mem_filter.mp hx).1).2 y h)
  · have h1 : ((F ++ T.map g).filter fun x => decide (x ∈ T)).length ≤ T.length := lenLe (List.Pairwise.filter _ Sn) fun x hx => by
      have := (List.mem_filter.mp hx).2
      simpa using this
    have h2 : ∀ l : List Nat, l.length = (l.filter fun x => decide (x ∈ T)).length + (l.filter fun x => !decide (x ∈ T)).length := by
      intro l
      induction l with
      | nil => rfl
      | cons x l ih =>
        by_cases z : x ∈ T
        · rw [List.filter_cons_of_pos (by simpa using z), List.filter_cons_of_neg (by simpa using z), List.length_cons, List.length_cons]; omega
        · rw [List.filter_cons_of_neg (by simpa using z), List.filter_cons_of_pos (by simpa using z), List.length_cons, List.length_cons]; omega
    have h3 := h2 (F ++ T.map g)
    rw [List.length_append, List.length_map] at h3
    omega
end Up

/-! text UpDC -/
set_option Elab.async false
set_option linter.all false
set_option maxRecDepth 100000
set_option maxHeartbeats 4000000
/-! name = {k: v for ..} on one line -/
namespace UpS
open PySem PySem.Spec PyProof.Rows L2
section
variable {X : Cx}
theorem ps_setDc {i : Nat} {y : Str} {py : Pos} {kx vx tg iter : Expr} {ifs : List Expr} {scope : Scope} {own : List (Str × Nat)} {pos spos : Pos} {wi : TI} {g : TG} {tt : TT} {tk tv : TE} (hc : X.calm = true) (hN : X.N.Nodup) (hy : X.N[i]? = some y) (hyl : X.env.scope.names.lookup y = some .local)
    (hsw : swapsWith (.DictComp kx vx [⟨tg, iter, ifs, 0⟩] scope pos) (some (.Name y py)) spos.line X.env = pure true) (hi : PI X tg iter wi) (ok : BlkOk X.N X.env.scope scope own)
    (hg : ∀ (s : Shared) (H : Hp) (C : Addr) (cl : List (Str × Addr)) (fp : List Addr), PG (X.blk s H scope (compEnvC scope cl C X.env) fp) tg g) (ht : ∀ (s : Shared) (H : Hp) (C : Addr) (cl : List (Str × Addr)) (fp : List Addr), PTs (X.blk s H scope (compEnvC scope cl C X.env) fp) ifs tt)
    (hk : ∀ (s : Shared) (H : Hp) (C : Addr) (cl : List (Str × Addr)) (fp : List Addr), PE (X.blk s H scope (compEnvC scope cl C X.env) fp) kx tk)
    (he : ∀ (s : Shared) (H : Hp) (C : Addr) (cl : List (Str × Addr)) (fp : List Addr), PE (X.blk s H scope (compEnvC scope cl C X.env) fp) vx tv) (hs : ∀ x, foldedSetIterable iter X.env x = pure x := by intro _; rfl) :
    PS X (.Assign [.Name y py] (.DictComp kx vx [⟨tg, iter, ifs, 0⟩] scope pos) spos) (tAsg (tDc wi g tt tk tv (own.map (·.2))) (gName i)) := by
  refine ⟨fun pins s σ H D I h => ?_⟩
  rw [exec_Assign_Name_used _ _ _ _ hsw]
  refine wpAny_bind (wpAny_standAt (wpAny_bind ?_))
  show wpAny _ X.A (do let _ ← comprehension (.DictComp kx vx [⟨tg, iter, ifs, 0⟩] scope pos) scope X.env (firstIterPos [⟨tg, iter, ifs, 0⟩] pos) newDict false (eval iter X.env) (some (assign (.Name y py) X.env))) _ _ s
  have h : tDc wi g tt tk tv (own.map (·.2)) σ H (fun x H1 => gName i x σ H1 D.nx) := h
  refine wpAny_bind (thn (dc_core (Qf := fun _ s' => SP X pins D .next s') hc hN I hi ok hg ht hk he hs h fun L C s' m H' I' q hn f => ?_) fun _ s' hq => wpAny_pure (wpAny_pure hq))
  show wpAny _ _ (assign (.Name y py) X.env (.ref L)) _ _ _
  refine wpAny_assign_Name (store_ok2 (v := V.ref L) I' hN hy (.inl hyl) rfl (fun s2 I2 ⟨a, sb, ha⟩ => ?_) (.inr hyl))
  obtain ⟨f0, f1, f2, f3, f4, f5⟩ := f
  have haC : C ≠ a := by
    rcases ha with z | z
    · rw [z]; exact f1
    · exact fun e => f4 y a z e.symm
  refine ⟨m, hn.sameBut sb haC, fun h3 sb3 => ?_⟩
  exact ⟨_, H', I2.turned (t' := s2.toks) (fun b o hb e => (sb3.2 b hb).trans e) f0 f1 f3 f4 f5, q⟩
theorem sw_trueD {kx vx : Expr} {gs : List Comprehension} {scope : Scope} {pos py : Pos} {y : Str} {l : Nat} {env : Env} (hk : env.scope.kind = .function) (hy : env.scope.names.lookup y = some .local) (hl : (py.line == pos.line) = true)
    (ha : (scope.names.any fun (n, k) => n == y && (k == .local || k == .cell)) = false) : swapsWith (.DictComp kx vx gs scope pos) (some (.Name y py)) l env = pure true := by
  have ky : env.kindOf y = some .local := hy
  have hb : env.blockKind = .function := by unfold Env.blockKind; rw [hk]; rfl
  unfold swapsWith
  simp only [hb, ky, ha, Expr.pos, hl]
  rfl
end
end UpS

/-! text Up10 -/
set_option Elab.async false
set_option linter.all false
set_option maxRecDepth 100000
set_option maxHeartbeats 4000000
/-! matched, path_chains, width -/
namespace Up
open PySem PySem.Spec PyProof.Rows L2 UpS
theorem Gr.drop {M : Addr → Prop} {G H G1 H1 : Hp} (a : Gr M G H G1 H1) (h : ∀ x, M x → H x = none) : Gr N0 G H G1 H1 :=
  ⟨a.gg, a.gh, fun x o _ q => a.hh x o (fun z => by rw [h x z] at q; cases q) q, a.mm, a.nw⟩
theorem aok_behind (ps : T2) : AOk (behindM ps) := fun l hl o ho => by
  unfold behindM at hl ⊢
  obtain ⟨s, hs, rfl⟩ := List.mem_map.mp hl
  unfold behindRow at ho
  obtain ⟨p, hp, rfl⟩ := List.mem_map.mp ho
  have h1 := (List.mem_filter.mp hp).1
  obtain ⟨i, hi, rfl⟩ := List.mem_map.mp h1
  rw [List.length_map]
  exact List.mem_range.mp hi
def aD (m : List (Nat × Nat)) : List (Key × D) := m.map fun p => (Sum.inl (p.1 : Int), D.int (p.2 : Nat))
theorem aK_rpk {G : Hp} : ∀ m : List (Nat × Nat), Rpk G (aD m) (aK m)
  | [] => .nil
  | p :: m => .cons (.int _) (aK_rpk m)
section
variable {P : Program} {w : World} {K : PySem.W.Frag} {mg : Str → Option Value} {base : Heap}
def fMatched : List D → D → Prop := fun ds d => ∃ A, ds = [nnI A] ∧ AOk A ∧ A.length ≤ 40 ∧ d = .dk (aD (matchedM A))
theorem ok_matched (M : Mo mg) (h : Df K mg "matched" s_matched p_matched) (hP : At P w K mg base "put_behind" s_put_behind p_put_behind 41 (spPut 41)) : At P w K mg base "matched" s_matched p_matched 42 (spD 1 fMatched) := by
  obtain ⟨f_put_behind, fd_put_behind, F_put_behind, b_put_behind, g_put_behind, G_put_behind⟩ := hP
  obtain ⟨f, fd, F, b, g⟩ := h
  refine ⟨f, fd, F, b, g, F.ok c_matched (fun vs H Q E h => h.1) (fun cdv A outer s H vs Q E hr h => ?_)⟩
  obtain ⟨_, ds, d, G, e, r, ⟨Af, rfl, hA, hl, rfl⟩, q⟩ := h
  obtain ⟨v0, rfl, r0⟩ := r.i1
  refine ⟨_, (pss_cons
    (ps_set (i := 1) c_matched.nd rfl (by first | exact .inl rfl | exact .inr rfl) pe_dnewK)
    (pss_cons
    (ps_for PassesOwn.never rfl (pi_range1 (by rfl) M.range_ (pa_cons (pe_callB (k_len K) (by rfl) M.len_ PySem.boot_len (pa_cons (pv 0) pa_nil)) pa_nil)) (pg_name (i := 2) c_matched.nd rfl (by first | exact .inl rfl | exact .inr rfl)) (pss_one
        (ps_expr (pe_call G_put_behind (hr.mono (by omega)) (by rfl) g_put_behind F_put_behind.kp b_put_behind .nil pass0 (pa_cons (pv 0) (pa_cons (pv 2) (pa_cons (pv 1) (pa_cons (pe_lst pa_nil) pa_nil))))))))
    (pss_one
    (ps_ret (pv 1))))), ?_⟩
  intro D hD
  have gD := e.free hD
  have gg := (Gr.refl e (M := N0)).put (o := .dK []) (.inl hD) gD
  have gl : GA (tCons (tCB (rLenU K) (tCons (tVar 0) tNil)) tNil) [some v0, some (.ref D), none] G [.int (Af.length : Nat)] := by
    have := gd_cb (ga_one (gd_var (σ := [some v0, some (V.ref D), none]) (i := 0) rfl r0)) (rb_lenL (K := K))
    rw [List.length_map] at this
    exact ga_one this
  refine sd_for (gi_range gl (by omega) (by omega)) gg.gh fun G1 H1 g1 => ?_
  have gg1 := gg.trans g1
  have rl : (rangeD ((Af.length : Int)).toNat).length = Af.length := by simp [rangeD]
  rw [rl]
  refine ⟨fun i σ' G' H' => ∃ m h2, σ' = [some v0, some (.ref D), h2] ∧ Gr N0 G H G' H' ∧ Ex G1 G' ∧ G' D = none ∧ H' D = some (.dK (aK m)) ∧ i ≤ Af.length ∧ m = (List.range i).foldl (fun m p => (putB Af 41 p (m, [])).2.1) [],
    ⟨[], none, rfl, gg1, .refl _, g1.off (o := .dK []) gD upd_same, g1.at0 upd_same, Nat.zero_le _, rfl⟩, ?_, ?_, ?_⟩
  · rintro i σ' G' H' ⟨m, h2, rfl, gg, e1, _⟩
    exact ⟨e1, gg.gh⟩
  · rintro i dd σ' G' H' v2 G2 H2 hdd ⟨m, h2, rfl, gg, e1, gD1, hD1, hi, hm⟩ g2 r2
    have hi' : i < Af.length := by
      have := (List.getElem?_eq_some_iff.mp hdd).1
      rw [rl] at this; exact this
    have : dd = .int (i : Nat) := by
      unfold rangeD at hdd
      rw [List.getElem?_map, List.getElem?_range (by simpa using hi')] at hdd
      exact (Option.some.inj hdd).symm
    subst this
    cases r2
    have gg2 := gg.trans g2
    have gD2 := g2.off gD1 hD1
    have hD2 := g2.at0 hD1
    have J := matched_inv hA hl i hi
    rw [← hm] at J
    show (tDrop _) _ _ _
    refine ⟨v0, rfl, _, rfl, _, rfl, Nat.zero_le _, fun T hT => ?_⟩
    have gT2 := gg2.gh.free hT
    have gg3 := gg2.put (o := .lst []) (.inl (gg2.free hT)) gT2
    have neDT : D ≠ T := fun z => by rw [z, hT] at hD2; cases hD2
    refine ⟨rfl, Af, i, m, [], v0, D, T, G2, rfl, gg3.gh, r0.mono gg2.gg, gD2, gT2, by rw [upd_ne neDT]; exact hD2, upd_same, hA, by omega, hi', J.inv, by simp only [List.length_nil]; omega, fun G8 H8 g8 gD8 gT8 hD8 hT8 => ?_⟩
    refine ⟨G8, (putB Af 41 i (m, [])).2.1, _, rfl, ((gg3.wk0).trans g8).drop (fun x hx => ?_), e1.trans (g2.gg.trans g8.gg), gD8, hD8, hi', ?_⟩
    · rcases hx with z | z
      · rw [z]; exact hD
      · rw [z]; exact gg2.free hT
    · rw [List.range_succ, List.foldl_append, ← hm]; rfl
  · rintro σ' G' H' ⟨m, h2, rfl, gg, e1, gD1, hD1, hi, hm⟩
    have hm' : m = matchedM Af := hm
    refine ⟨_, rfl, q (.ref D) _ H' (gg.seal hD hD1) ?_⟩
    rw [hm']
    exact .dk (by rw [← hm']; exact upd_same) (aK_rpk _)
end

/-! ### path_chains -/
def laterM (m : List (Nat × Nat)) : List (Nat × Nat) := m.map fun p => (p.2, p.1)
def chainGo (lt : List (Nat × Nat)) : Nat → Nat → List Nat
  | 0, x => [x]
  | n + 1, x => match lookM lt x with
    | none => [x]
    | some y => x :: chainGo lt n y
def startP (m : List (Nat × Nat)) (p : Nat) : Bool := (lookM m p).isNone
def chainsN (ps : T2) : List (List Nat) := ((List.range ps.length).filter (startP (matchedM (behindM ps)))).map (chainGo (laterM (matchedM (behindM ps))) 40)
def pickPs (ps : T2) (c : List Nat) : T2 := c.map fun i => ps.getD i []
def chainsOf (ps : T2) : List T2 := (chainsN ps).map (pickPs ps)
def pathChains (b : Bk) : List T2 := chainsOf (allPaths b)
theorem aK_of {G : Hp} : ∀ {m : List (Nat × Nat)} {ws : List (Key × V)}, Rpk G (aD m) ws → ws = aK m
  | [], _, h => by cases h; rfl
  | p :: m, _, h => by
    cases h with
    | cons h r => cases h; rw [aK_of r]; rfl
section
variable {K : PySem.W.Frag} {σ : L2.St} {G H : Hp} {td tk te : TE} {m : List (Nat × Nat)} {o : Nat}
theorem gd_dinK (hk : GD tk σ G (.int (o : Nat))) (h : GD td σ G (.dk (aD m))) : GD (tDIn tk td) σ G (.bl (lookM m o).isSome) := fun H e Q q =>
  hk H e _ fun y G1 H1 g1 r1 => (h.mono g1.gg) H1 g1.gh _ fun x G2 H2 g2 r2 => by
    cases r1
    cases r2 with
    | dk hb rt =>
      cases aK_of rt
      refine ⟨_, _, rfl, .inl ⟨aK m, Sum.inl (o : Int), .inl (g2.gh _ _ hb), rfl, rfl⟩, ?_⟩
      rw [aK_val, Option.isSome_map]
      exact q _ G2 H2 (g1.trans g2) (.bl _)
theorem gd_dnotinK (hk : GD tk σ G (.int (o : Nat))) (h : GD td σ G (.dk (aD m))) : GD (tDNotIn tk td) σ G (.bl (startP m o)) := fun H e Q q =>
  hk H e _ fun y G1 H1 g1 r1 => (h.mono g1.gg) H1 g1.gh _ fun x G2 H2 g2 r2 => by
    cases r1
    cases r2 with
    | dk hb rt =>
      cases aK_of rt
      refine ⟨_, _, rfl, .inl ⟨aK m, Sum.inl (o : Int), .inl (g2.gh _ _ hb), rfl, rfl⟩, ?_⟩
      rw [aK_val, Option.isSome_map]
      have : (!(lookM m o).isSome) = startP m o := by unfold startP; cases lookM m o <;> rfl
      rw [this]
      exact q _ G2 H2 (g1.trans g2) (.bl _)
theorem aD_find {p : Nat} (h : lookM m o = some p) : ((aD m).find? fun kv => decide (kv.1 = Sum.inl (o : Int))).map (·.2) = some (.int (p : Nat)) := by
  induction m with
  | nil => cases h
  | cons x m ih =>
    rw [lookM_cons] at h
    by_cases z : x.1 = o
    · rw [if_pos z] at h
      cases h
      have e1 : (aD (x :: m)).find? (fun kv => decide (kv.1 = Sum.inl (o : Int))) = some (Sum.inl (x.1 : Int), D.int (x.2 : Nat)) := List.find?_cons_of_pos (by simp [z])
      rw [e1]; rfl
    · rw [if_neg z] at h
      have ne : ¬ (Sum.inl (x.1 : Int) : Key) = Sum.inl (o : Int) := fun y => z (by have := Sum.inl.inj y; omega)
      have e1 : (aD (x :: m)).find? (fun kv => decide (kv.1 = Sum.inl (o : Int))) = (aD m).find? (fun kv => decide (kv.1 = Sum.inl (o : Int))) := List.find?_cons_of_neg (by simpa using ne)
      rw [e1]; exact ih h
theorem gd_neg {i : Int} (h : GD te σ G (.int i)) : GD (tUn (rU fun i => .int (-i)) te) σ G (.int (-i)) := fun H e Q q => h H e _ fun v G1 H1 g r => by
  cases r
  exact ⟨i, rfl, q _ G1 H1 g (.int _)⟩
end

theorem tOnlys_strs : ∀ xs : T1, tOnlys (xs.map D.str) = true
  | [] => rfl
  | _ :: xs => tOnlys_strs xs
theorem tOnlys_tSs : ∀ ts : T2, tOnlys (ts.map tS) = true
  | [] => rfl
  | t :: ts => Bool.and_eq_true_iff.mpr ⟨tOnlys_strs t, tOnlys_tSs ts⟩
theorem mem_allPaths {b : Bk} {t : T1} (h : t ∈ allPaths b) : t ∈ standK b := by
  unfold allPaths endsPaths at h
  obtain ⟨p, hp, rfl⟩ := List.mem_map.mp h
  obtain ⟨t', ht', e⟩ := List.mem_filterMap.mp hp
  unfold endsOf at e
  split at e
  · cases e; exact mem_isort.mp ht'
  · cases e
theorem stand_sst {b : Bk} {t : T1} (h : t ∈ standK b) : Sst ltS t ∧ ∀ x ∈ t, x ∈ names b := by
  obtain ⟨p, hp, rfl⟩ := List.mem_map.mp h
  exact (stand_inv b).srt p hp
theorem ok_of_names {b : Bk} (h : okS (names b) = true) {t : T1} (ht : ∀ x ∈ t, x ∈ names b) : okS t = true :=
  List.all_eq_true.mpr fun x hx => List.all_eq_true.mp h x (ht x hx)
theorem ok_paths {b : Bk} (h : okS (names b) = true) : okT (allPaths b) = true :=
  List.all_eq_true.mpr fun t ht => ok_of_names h (stand_sst (mem_allPaths ht)).2
theorem sst_lt {a b : T1} (ha : Sst ltS a) (hb : Sst ltS b) (h : ∀ x ∈ a, x ∈ b) (n : a ≠ b) : a.length < b.length := by
  have sl := sst_sublist ordS hb ha h
  rcases Nat.lt_or_ge a.length b.length with z | z
  · exact z
  · exact absurd (sl.eq_of_length_le z) n
theorem edge_lt {ps : T2} (hs : ∀ t ∈ ps, Sst ltS t) (hl : ps.length ≤ 40) {o p : Nat} (h : lookM (matchedM (behindM ps)) o = some p) : o < ps.length ∧ p < ps.length ∧ (ps.getD p []).length < (ps.getD o []).length := by
  have lb : (behindM ps).length = ps.length := by unfold behindM; rw [List.length_map]
  have R := matched_inv (aok_behind ps) (by rw [lb]; exact hl) (behindM ps).length (Nat.le_refl _)
  change MInv (behindM ps) (behindM ps).length (matchedM (behindM ps)) at R
  have hm := lookM_some h
  have h1 := R.inv.lt _ hm
  have h2 := R.ed _ hm
  rw [lb] at h1
  simp only at h1 h2
  refine ⟨h1.1, h1.2, ?_⟩
  have ep : (behindM ps).getD p [] = behindRow ps (ps.getD p []) := by
    unfold behindM
    rw [List.getD_eq_getElem?_getD, List.getElem?_map, List.getD_eq_getElem?_getD, List.getElem?_eq_getElem h1.2]; rfl
  rw [ep] at h2
  unfold behindRow at h2
  obtain ⟨x, hx, rfl⟩ := List.mem_map.mp h2
  obtain ⟨hx1, hx2⟩ := List.mem_filter.mp hx
  obtain ⟨m1, m2⟩ := mem_enumL hx1
  have eo : ps.getD x.1 [] = x.2 := by rw [List.getD_eq_getElem?_getD, m2]; rfl
  have mp : ps.getD p [] ∈ ps := by
    rw [List.getD_eq_getElem?_getD, List.getElem?_eq_getElem h1.2]; exact List.getElem_mem h1.2
  unfold behindP at hx2
  rw [Bool.and_eq_true, Bool.not_eq_true', decide_eq_false_iff_not] at hx2
  rw [eo]
  refine sst_lt (hs _ mp) (hs _ m1) (fun z hz => ?_) (fun e => hx2.1 e.symm)
  have := List.all_eq_true.mp hx2.2 z hz
  simpa using this
theorem later_look {m : List (Nat × Nat)} {x y : Nat} (h : lookM (laterM m) x = some y) (nd : (m.map (·.1)).Nodup) : lookM m y = some x := by
  have h1 := lookM_some h
  unfold laterM at h1
  obtain ⟨p, hp, e⟩ := List.mem_map.mp h1
  cases e
  have : ∀ {m : List (Nat × Nat)}, (m.map (·.1)).Nodup → ∀ p ∈ m, lookM m p.1 = some p.2 := by
    intro m
    induction m with
    | nil => intro _ p hp; cases hp
    | cons x m ih =>
      intro nd p hp
      obtain ⟨n1, n2⟩ := List.nodup_cons.mp nd
      rw [lookM_cons]
      rcases List.mem_cons.mp hp with e | e
      · rw [e, if_pos rfl]
      · rw [if_neg (fun z => n1 (List.mem_map.mpr ⟨p, e, z.symm⟩))]
        exact ih n2 p e
  exact this nd p hp
section
variable {P : Program} {w : World} {K : PySem.W.Frag} {mg : Str → Option Value} {base : Heap}
/-- the book is of the size that the proof asks for -/
structure Fine (b : Bk) : Prop where
  sm : Sm b
  ok : okS (names b) = true
  few : (allPaths b).length ≤ 40
def fChains : List D → D → Prop := fun ds d => ∃ x b, ds = [x] ∧ IsBk x b ∧ Fine b ∧ d = .tup ((pathChains b).map tT)
theorem ok_path_chains (M : Mo mg) (h : Df K mg "path_chains" s_path_chains p_path_chains) (hA : At P w K mg base "all_paths" s_all_paths p_all_paths 7 (spD 1 fAll)) (hM : At P w K mg base "matched" s_matched p_matched 42 (spD 1 fMatched))
    (hB : At P w K mg base "behind_of" s_behind_of p_behind_of 2 (spD 1 fBehind)) : At P w K mg base "path_chains" s_path_chains p_path_chains 43 (spD 1 fChains) := by
  obtain ⟨f_all_paths, fd_all_paths, F_all_paths, b_all_paths, g_all_paths, G_all_paths⟩ := hA
  obtain ⟨f_matched, fd_matched, F_matched, b_matched, g_matched, G_matched⟩ := hM
  obtain ⟨f_behind_of, fd_behind_of, F_behind_of, b_behind_of, g_behind_of, G_behind_of⟩ := hB
  obtain ⟨f, fd, F, b, g⟩ := h
  refine ⟨f, fd, F, b, g, F.ok c_path_chains (fun vs H Q E h => h.1) (fun cdv A outer s H vs Q E hr h => ?_)⟩
  obtain ⟨_, ds, d, G, e, r, ⟨x, bk, rfl, hb, S, rfl⟩, q⟩ := h
  obtain ⟨v0, rfl, r0⟩ := r.i1
  refine ⟨_, (pss_cons
    (ps_set (i := 1) c_path_chains.nd rfl (by first | exact .inl rfl | exact .inr rfl) (pe_call G_all_paths (hr.mono (by omega)) (by rfl) g_all_paths F_all_paths.kp b_all_paths .nil pass0 (pa_cons (pv 0) pa_nil)))
    (pss_cons
    (ps_asg (pe_tup (pa_cons (pe_call G_matched (hr.mono (by omega)) (by rfl) g_matched F_matched.kp b_matched .nil pass0 (pa_cons (pe_call G_behind_of (hr.mono (by omega)) (by rfl) g_behind_of F_behind_of.kp b_behind_of .nil pass0 (pa_cons (pv 1) pa_nil)) pa_nil)) (pa_cons (pe_lst pa_nil) pa_nil))) (k_tupn K 2 (pgs_cons (pg_name (i := 2) c_path_chains.nd rfl (by first | exact .inl rfl | exact .inr rfl)) (pgs_cons (pg_name (i := 3) c_path_chains.nd rfl (by first | exact .inl rfl | exact .inr rfl)) pgs_nil))))
    (pss_cons
    (ps_lock (ps_setDc (i := 4) (own := [("place", 5)]) rfl c_path_chains.nd rfl rfl (sw_trueD rfl rfl rfl (by decide +kernel)) (pi_keys (pv 2)) (blkOk_by (by kernel_rfl)) (fun _ _ _ _ _ => (pg_name (i := 5) c_path_chains.nd rfl (by first | exact .inl rfl | exact .inr rfl))) (fun _ _ _ _ _ => pts_nil) (fun _ _ _ _ _ => (pe_dget (hu1 hr) (pv 2) (pv 5) (fun _ _ => rfl))) (fun _ _ _ _ _ => (pv 5))))
    (pss_cons
    (ps_for PassesOwn.never rfl (k_enumU K (by rfl) M.enumerate_ (pa_cons (pv 1) pa_nil)) (k_tup2 K (pgs_cons (pg_name (i := 5) c_path_chains.nd rfl (by first | exact .inl rfl | exact .inr rfl)) (pgs_cons (pg_name (i := 6) c_path_chains.nd rfl (by first | exact .inl rfl | exact .inr rfl)) pgs_nil))) (pss_one
        (ps_if (pt_cmp (pc_dnotin (hu1 hr) (pv 5) (pv 2))) (pss_cons
            (ps_set (i := 7) c_path_chains.nd rfl (by first | exact .inl rfl | exact .inr rfl) (pe_lst (pa_cons (pv 5) pa_nil)))
            (pss_cons
            (ps_while PassesOwn.never (pt_cmp (pc_din (hu1 hr) (pe_ix (k_ixL K) (pv 7) (pe_un un_neg pe_int) (fun _ _ => rfl)) (pv 4))) (pss_one
                (ps_expr (pe_bm PySem.F.plainAttrs_list PySem.F.slot_list_append PySem.F.type_list_append mt_append (pv 7) (pa_cons (pe_dget (hu1 hr) (pv 4) (pe_ix (k_ixL K) (pv 7) (pe_un un_neg pe_int) (fun _ _ => rfl)) (fun _ _ => rfl)) pa_nil)))))
            (pss_one
            (ps_expr (pe_bm PySem.F.plainAttrs_list PySem.F.slot_list_append PySem.F.type_list_append mt_append (pv 3) (pa_cons (pe_callTy (k_tuple K) (by rfl) M.tuple_ PyProof.Rows.boot_tuple (pa_cons (pe_lc (own := [("spot", 8)]) rfl c_path_chains.nd (k_seq K (pv 7)) (blkOk_by (by kernel_rfl)) (fun _ _ _ _ _ => (pg_name (i := 8) c_path_chains.nd rfl (by first | exact .inl rfl | exact .inr rfl))) (fun _ _ _ _ _ => pts_nil) (fun _ _ _ _ _ => (pe_ix (k_ixT K) (pv 1) (pv 8) (fun _ _ => rfl)))) pa_nil)) pa_nil)))))) pss_nil)))
    (pss_one
    (ps_ret (pe_callTy (k_tuple K) (by rfl) M.tuple_ PyProof.Rows.boot_tuple (pa_cons (pv 3) pa_nil)))))))), ?_⟩
  have hfew := S.few
  have hok := ok_paths S.ok
  have hsst : ∀ t ∈ allPaths bk, Sst ltS t := fun t ht => (stand_sst (mem_allPaths ht)).1
  have hpl : ∀ t ∈ allPaths bk, t.length ≤ 10 := fun t ht => Nat.le_trans (standK_len (mem_allPaths ht)) S.sm.len
  have hgl : ∀ i, ((allPaths bk).getD i []).length ≤ 10 := fun i => by
    rw [List.getD_eq_getElem?_getD]
    cases q9 : (allPaths bk)[i]? with
    | none => exact Nat.zero_le _
    | some t => exact hpl t (List.mem_of_getElem? q9)
  unfold pathChains at q
  refine sq_asg (gd_call (ga_one (gd_var (i := 0) rfl r0)) rfl ⟨x, bk, rfl, hb, S.sm, rfl⟩) e fun v1 G1 H1 g1 r1 => ?_
  generalize allPaths bk = ps at hfew hok hsst hpl hgl q r1
  have lb : (behindM ps).length = ps.length := by unfold behindM; rw [List.length_map]
  have hMI := matched_inv (aok_behind ps) (by rw [lb]; exact hfew) (behindM ps).length (Nat.le_refl _)
  change MInv (behindM ps) (behindM ps).length (matchedM (behindM ps)) at hMI
  have hedge := fun o p => edge_lt (ps := ps) hsst hfew (o := o) (p := p)
  -- ahead, found
  refine gd_call (ga_one (gd_call (ga_one (gd_var (i := 1) rfl r1)) rfl ⟨ps, rfl, hok, by omega, fun p hp => by have := hpl p hp; omega, rfl⟩)) rfl ⟨behindM ps, rfl, aok_behind ps, by rw [lb]; exact hfew, rfl⟩ H1 g1.gh _ fun v2 G2 H2 g2 r2 => ?_
  generalize hm : matchedM (behindM ps) = m at hMI hedge r2
  have gg2 := g1.trans g2
  refine ⟨Nat.zero_le _, fun R0 hR0 => ⟨by show 2 ≤ sizeLine; decide, fun t0 ht0 => ⟨t0, _, rfl, .inl (.inl upd_same), rfl, v2, _, rfl, .ref R0, _, rfl, rfl, ?_⟩⟩⟩
  have hRH := gg2.free hR0
  have gR2 := gg2.gh.free hR0
  have hRt : R0 ≠ t0 := fun z => by rw [← z, upd_same] at ht0; cases ht0
  have gg3 := (gg2.put (o := .lst []) (.inl hRH) gR2).data (o := .tup [v2, .ref R0]) ht0
  have ht2 : H2 t0 = none := by rwa [upd_ne (Ne.symm hRt)] at ht0
  have e23 : Ex G2 (upd G2 t0 (.tup [v2, .ref R0])) := Ex.new (gg2.gh.free ht2)
  have gR3 : (upd G2 t0 (.tup [v2, .ref R0])) R0 = none := by rw [upd_ne hRt]; exact gR2
  have hR3 : (upd (upd H2 R0 (.lst [])) t0 (.tup [v2, .ref R0])) R0 = some (.lst []) := by rw [upd_ne hRt, upd_same]
  -- later, by a lock
  cases r2 with
  | @dk d1 wsT _ hd1 rT =>
  have hd3 := e23 _ _ hd1
  refine ⟨d1, .dK wsT, gg3.gh _ _ hd3, trivial, fun od => ?_⟩
  have L0 := Lk.start (od := od) gg3 hd3
  have noA : ∀ m : List (Nat × Nat), noDkk (aD m) = true := by
    intro m
    induction m with
    | nil => rfl
    | cons p m ih => exact Bool.and_eq_true_iff.mpr ⟨rfl, ih⟩
  have rk0 : Rp (upd (upd G2 t0 (.tup [.ref d1, .ref R0])) d1 (.frz od (.dK wsT))) (.fk (aD m)) (.ref d1) := rp_fk hd3 (rT.mono e23) (noA m)
  have hnk : (m.map (·.1)).Nodup := hMI.inv.nd
  have look : ∀ p ∈ m, lookM m p.1 = some p.2 := by
    have : ∀ {m : List (Nat × Nat)}, (m.map (·.1)).Nodup → ∀ p ∈ m, lookM m p.1 = some p.2 := by
      intro m
      induction m with
      | nil => intro _ p hp; cases hp
      | cons x m ih =>
        intro nd p hp
        obtain ⟨n1, n2⟩ := List.nodup_cons.mp nd
        rw [lookM_cons]
        rcases List.mem_cons.mp hp with e | e
        · rw [e, if_pos rfl]
        · rw [if_neg (fun z => n1 (List.mem_map.mpr ⟨p, e, z.symm⟩))]
          exact ih n2 p e
    exact this hnk
  have mlen : m.length ≤ 40 := by
    have h1 := hMI.inv.m_len
    rw [lb] at h1
    simp only at h1
    omega
  have vnd : (m.map fun p => (Sum.inl (p.2 : Int) : Key)).Nodup := by
    have := hMI.vn
    rw [show (m.map fun p => (Sum.inl (p.2 : Int) : Key)) = (m.map (·.2)).map fun (x : Nat) => (Sum.inl (x : Int) : Key) by rw [List.map_map]; rfl]
    exact List.pairwise_map.mpr (List.Pairwise.imp (fun {p q} h z => h (by have := Sum.inl.inj z; omega)) this)
  refine s_asg (gd_dc (xs := m) (e := fun p => D.int (p.1 : Nat)) (ky := fun p => Sum.inl (p.2 : Int)) (f := fun p => D.int (p.1 : Nat)) (by
      have := gi_keys (σ := [some v0, some v1, some (V.ref d1), some (V.ref R0), none, none, none, none, none]) (kvs := aD m) (ws := wsT) (i := 2) (d := d1) (od := od) rfl (upd_same (H := upd G2 t0 (.tup [V.ref d1, V.ref R0]))) (rpk_keys rT)
      rw [show (aD m).map (fun kv => keyD kv.1) = m.map fun p => D.int (p.1 : Nat) by unfold aD; rw [List.map_map]; rfl] at this
      exact this) (by omega) vnd (fun p hp G' H' v e1 e2 rp Q q => q _ rfl (fun H8 e8 Q8 q8 => gd_dget (k := Sum.inl (p.1 : Int)) (gd_var (i := 2) rfl (rk0.mono e1)) (.inr rfl) (gd_var (i := 5) rfl rp) (fun G v h => by cases h; rfl) (aD_find (look p hp)) H8 e8 _ fun v G9 H9 g9 r9 => by cases r9; exact q8 G9 H9 g9) (gd_var (i := 5) rfl rp))) L0.ex fun v4 G5 H5 g5 r4 => ?_
  have L5 := L0.step g5
  refine ⟨L5.ex _ _ L5.at_, ?_⟩
  have gg6 := L5.out
  have e36 : Ex (upd G2 t0 (.tup [V.ref d1, V.ref R0])) (upd G5 d1 (.dK wsT)) := Ex.unlock g5.gg hd3
  have neR : R0 ≠ d1 := fun z => by
    have h := congrArg (upd G2 t0 (.tup [V.ref d1, V.ref R0])) z
    rw [gR3, hd3] at h; cases h
  have gR6 : (upd G5 d1 (.dK wsT)) R0 = none := by
    rw [upd_ne neR]
    exact g5.off (o := .lst []) (by rw [upd_ne neR]; exact gR3) (by rw [upd_ne neR]; exact hR3)
  have hR6 : (upd H5 d1 (.dK wsT)) R0 = some (.lst []) := by
    rw [upd_ne neR]
    exact g5.at0 (by rw [upd_ne neR]; exact hR3)
  have r46 : Rp (upd G5 d1 (.dK wsT)) (.dk (aD (laterM m))) v4 := by
    have ea : (m.map fun p => ((Sum.inl (p.2 : Int) : Key), D.int (p.1 : Nat))) = aD (laterM m) := by unfold aD laterM; rw [List.map_map]; rfl
    rw [ea] at r4
    cases r4 with
    | @dk d2 ws2 _ hd2 rT2 =>
      cases aK_of rT2
      have ne : d2 ≠ d1 := fun z => by rw [z, L5.at_] at hd2; cases hd2
      exact .dk (by rw [upd_ne ne]; exact hd2) (aK_rpk _)
  have r26 : Rp (upd G5 d1 (.dK wsT)) (.dk (aD m)) (.ref d1) := by
    cases aK_of rT
    exact .dk upd_same (aK_rpk _)
  have r16 : Rp (upd G5 d1 (.dK wsT)) (tT ps) v1 := (r1.mono (g2.gg.trans e23)).mono e36
  generalize upd G5 d1 (.dK wsT) = G6 at gg6 gR6 r46 r26 r16
  generalize upd H5 d1 (.dK wsT) = H6 at gg6 hR6
  have noD : noDks (ps.map tS) = true := noDks_tSs ps
  have enl : (enumL ps).length = ps.length := by simp [enumL]
  refine sd_for (gi_enum (.inr rfl) (ga_one (gd_var (i := 1) rfl r16))) gg6.gh fun G7 H7 g7 => ?_
  have gg7 := gg6.trans g7
  rw [enum_map, List.length_map, enl]
  let chn : Nat → List T2 := fun i => (((List.range i).filter (startP m)).map (chainGo (laterM m) 40)).map (pickPs ps)
  have chl : ∀ i, (chn i).length ≤ i := fun i => by
    show ((((List.range i).filter (startP m)).map (chainGo (laterM m) 40)).map (pickPs ps)).length ≤ i
    rw [List.length_map, List.length_map]
    refine Nat.le_trans (List.length_filter_le _ _) ?_
    rw [List.length_range]; exact Nat.le_refl _
  refine ⟨fun i σ' G' H' => ∃ vs h5 h6 h7 h8, σ' = [some v0, some v1, some (.ref d1), some (.ref R0), some v4, h5, h6, h7, h8] ∧ Gr N0 G H G' H' ∧ Ex G7 G' ∧ G' R0 = none ∧ H' R0 = some (.lst vs) ∧ Rps G' ((chn i).map tT) vs ∧ i ≤ ps.length,
    ⟨[], none, none, none, none, rfl, gg7, .refl _, g7.off gR6 hR6, g7.at0 hR6, .nil, Nat.zero_le _⟩, ?_, ?_, ?_⟩
  · rintro i σ' G' H' ⟨vs, h5, h6, h7, h8, rfl, gg, e7, _⟩
    exact ⟨e7, gg.gh⟩
  · rintro i dd σ' G' H' v5 G8 H8 hdd ⟨vs, h5, h6, h7, h8, rfl, gg, e7, gR, hR, rvs, hi⟩ g8 r8
    have hi' : i < ps.length := by
      have := (List.getElem?_eq_some_iff.mp hdd).1
      rw [List.length_map, enl] at this; exact this
    have hdd' : dd = eItem (i, ps.getD i []) := by
      unfold enumL at hdd
      rw [List.getElem?_map, List.getElem?_map, List.getElem?_range hi'] at hdd
      exact (Option.some.inj hdd).symm
    subst hdd'
    have gg8 := gg.trans g8
    have gR8 := g8.off gR hR
    have hR8 := g8.at0 hR
    have e68 : Ex G6 G8 := g7.gg.trans (e7.trans g8.gg)
    have rsucc : chn (i + 1) = chn i ++ (if startP m i = true then [pickPs ps (chainGo (laterM m) 40 i)] else []) := by
      show (((List.range (i + 1)).filter (startP m)).map (chainGo (laterM m) 40)).map (pickPs ps) = _
      rw [List.range_succ, List.filter_append, List.map_append, List.map_append]
      congr 1
      by_cases z : startP m i = true
      · rw [if_pos z, List.filter_cons_of_pos z]; rfl
      · rw [if_neg z, List.filter_cons_of_neg z]; rfl
    refine tg_tup2 r8 g8.gh fun a5 a6 r5 r6 => ?_
    cases r5
    refine s_if (gt_B (gd_dnotinK (m := m) (o := i) (gd_var (i := 5) rfl (.int _)) (gd_var (i := 2) rfl (r26.mono e68)))) g8.gh (fun hst G9 H9 g9 => ?_) fun hst G9 H9 g9 => ?_
    · have gg9 := gg8.trans g9
      have gR9 := g9.off gR8 hR8
      have hR9 := g9.at0 hR8
      refine sq_asgL (gl_lst (ga_one (gd_var (i := 5) (d := .int (i : Nat)) rfl (.int _))) (by show 1 ≤ 100000; omega)) g9.gh fun R1 vs1 G10 H10 g10 hR1H gR1 hR1 rvs1 => ?_
      have gg10 := gg9.trans g10
      have hR1e := gg9.free hR1H
      have gR10 := g10.off gR9 hR9
      have hR10 := g10.at0 hR9
      have ne01 : R0 ≠ R1 := fun z => by rw [← z, hR9] at hR1H; cases hR1H
      have e610 : Ex G6 G10 := e68.trans (g9.gg.trans g10.gg)
      have vs1e : vs1 = tI ([] ++ [i]) := by
        obtain ⟨a, rfl, ra⟩ := rvs1.i1
        cases ra; rfl
      have rvs10 := rvs.mono (g8.gg.trans (g9.gg.trans g10.gg))
      have hcl : chn (i + 1) = chn i ++ [pickPs ps (chainGo (laterM m) 40 i)] := by rw [rsucc, if_pos hst]
      clear rsucc
      unfold tSeq
      refine s_whileH (fun k σ' H' => ∃ G' pre x fuel, σ' = [some v0, some v1, some (.ref d1), some (.ref R0), some v4, some (.int (i : Nat)), some a6, some (.ref R1), h8] ∧ Gr N0 G H G' H' ∧ Ex G10 G' ∧ G' R0 = none ∧ G' R1 = none ∧ H' R0 = some (.lst vs) ∧ H' R1 = some (.lst (tI (pre ++ [x]))) ∧
          pre ++ chainGo (laterM m) fuel x = chainGo (laterM m) 40 i ∧ 40 ≤ fuel + (ps.getD x []).length ∧ pre.length ≤ (ps.getD x []).length ∧ x < ps.length ∧ (∀ y ∈ pre, y < ps.length) ∧ k = 11 - (ps.getD x []).length)
        (n := 11 - (ps.getD i []).length) ⟨G10, [], i, 40, by rw [← vs1e] at *; rfl, gg10, .refl _, gR10, gR1, hR10, by rw [← vs1e]; exact hR1, rfl, by omega, Nat.zero_le _, hi', (fun y hy => nomatch hy), rfl⟩ ?_
      rintro k σ' H' ⟨G', pre, x, fuel, rfl, gg', e10, gR0', gR1', hR0', hR1', hch, hfu, hpre, hx, hpx, rfl⟩
      have e6' : Ex G6 G' := e610.trans e10
      have lastD : ∀ G2 : Hp, G2 R1 = some (.lst (tI (pre ++ [x]))) → GD (tOp (rIxL K) (tVar 7) (tUn (rU fun i => .int (-i)) (tC (.int 1)))) [some v0, some v1, some (.ref d1), some (.ref R0), some v4, some (.int (i : Nat)), some a6, some (.ref R1), h8] G2 (.int (x : Nat)) := fun G2 e2 => by
        have rl : Rp G2 (.lst (nI (pre ++ [x]))) (.ref R1) := by
          refine .lst e2 ?_
          have := Rps.of_ints (G := G2) ((pre ++ [x]).map fun (i : Nat) => (i : Int))
          rw [List.map_map, List.map_map] at this
          exact this
        refine gd_op (gd_var (i := 7) rfl rl) (gd_neg (gd_c (.int 1))) (ro_ixL ?_)
        unfold nI
        rw [List.map_append]
        exact atI_last _ _
      have exn : Ex G' (upd G' R1 (.lst (tI (pre ++ [x])))) := Ex.new gR1'
      have rl4 : Rp (upd G' R1 (.lst (tI (pre ++ [x])))) (.dk (aD (laterM m))) v4 := (r46.mono e6').mono exn
      refine GT.own (G := G') (p := R1) (o := .lst (tI (pre ++ [x]))) (b := (lookM (laterM m) x).isSome) (gt_B (gd_dinK (lastD _ upd_same) (gd_var (i := 4) rfl rl4))) gg'.gh gR1' hR1' (by intro _ z; cases z) _ fun G11 H11 g11 => ?_
      have gg11 := gg'.trans g11
      have gR011 := g11.off gR0' hR0'
      have gR111 := g11.off gR1' hR1'
      have hR011 := g11.at0 hR0'
      have hR111 := g11.at0 hR1'
      have hgx := hgl x
      cases fuel with
      | zero => omega
      | succ fuel =>
      cases hlk : lookM (laterM m) x with
      | some y =>
        refine iteT ⟨fun σ H => ∃ m', m' < 11 - (ps.getD x []).length ∧ _, fun _ _ z => z, ?_⟩
        have hyx := hedge y x (later_look hlk hnk)
        have rl4' : Rp (upd G11 R1 (.lst (tI (pre ++ [x])))) (.dk (aD (laterM m))) v4 := ((r46.mono e6').mono g11.gg).mono (Ex.new gR111)
        have gdv := gd_dget (k := Sum.inl (x : Int)) (d := .int (y : Nat)) (gd_var (σ := [some v0, some v1, some (V.ref d1), some (V.ref R0), some v4, some (V.int (i : Nat)), some a6, some (V.ref R1), h8]) (i := 4) rfl rl4') (.inl rfl) (lastD _ upd_same) (fun G v h => by cases h; rfl) (aD_find hlk)
        refine s_appendP (i := 7) rfl (fun Q hQ => gdv.ownD gg11.gh gR111 hR111 (by intro _ z; cases z) rfl Q hQ) hR111 (by unfold tI; rw [List.length_map, List.length_append, List.length_singleton]; omega) fun v12 G12 H12 g12 r12 hR12 => ?_
        cases r12
        have gg12 := gg11.trans g12
        have gR112 := g12.off gR111 hR111
        have hpos : (ps.getD x []).length < (ps.getD y []).length := hyx.2.2
        have hgy := hgl y
        refine ⟨11 - (ps.getD y []).length, by omega, G12, pre ++ [x], y, fuel, rfl, gg12.put (.inl hR1e) gR112, e10.trans (g11.gg.trans g12.gg), g12.off gR011 hR011, gR112, ?_, ?_, ?_, by omega, by rw [List.length_append, List.length_singleton]; omega, hyx.1, fun z hz => ?_, rfl⟩
        · rw [upd_ne ne01]; exact g12.at0 hR011
        · rw [upd_same]; unfold tI; rw [List.map_append (l₁ := pre ++ [x])]; rfl
        · rw [← hch]
          conv => rhs; unfold chainGo
          rw [hlk, List.append_assoc]; rfl
        · rcases List.mem_append.mp hz with w | w
          · exact hpx z w
          · rw [List.mem_singleton.mp w]; exact hx
      | none =>
        refine iteF ?_
        have hchain : pre ++ [x] = chainGo (laterM m) 40 i := by
          rw [← hch]
          conv => rhs; unfold chainGo
          rw [hlk]
        have hall : ∀ y ∈ pre ++ [x], y < ps.length := fun y hy => by
          rcases List.mem_append.mp hy with w | w
          · exact hpx y w
          · rw [List.mem_singleton.mp w]; exact hx
        have r111 : Rp G11 (tT ps) v1 := r16.mono (e6'.trans g11.gg)
        have rlen : (pre ++ [x]).length ≤ 90000 := by rw [List.length_append, List.length_singleton]; omega
        have rw1 : Rp (upd G11 R1 (.lst (tI (pre ++ [x])))) (.lst (nI (pre ++ [x]))) (.ref R1) := by
          refine .lst upd_same ?_
          have := Rps.of_ints (G := upd G11 R1 (.lst (tI (pre ++ [x])))) ((pre ++ [x]).map fun (i : Nat) => (i : Int))
          rw [List.map_map, List.map_map] at this
          exact this
        generalize hrw : pre ++ [x] = rowx at hchain hall rlen rw1 hR111
        have gdv := gd_cb (ga_one (GL.gd (gl_lc0 (σ := [some v0, some v1, some (V.ref d1), some (V.ref R0), some v4, some (V.int (i : Nat)), some a6, some (V.ref R1), h8]) (G := upd G11 R1 (.lst (tI rowx))) (xs := rowx) (e := fun (i : Nat) => D.int (i : Int)) (f := fun i => tS (ps.getD i [])) (vs := [8]) (j := 8)
          (gi_seqL (K := K) (gd_var (i := 7) rfl rw1)) rlen (fun _ => rfl) fun y hy G' v e' rv =>
            gd_op (gd_var (i := 1) rfl ((r111.mono (Ex.new gR111)).mono e')) (gd_var (i := 8) rfl rv) (ro_ixT (K := K) (d := tS (ps.getD y [])) (atI_nat (by
              have := hall y hy
              rw [List.getElem?_map, List.getD_eq_getElem?_getD, List.getElem?_eq_getElem this]; rfl)))))) (rb_tupL (K := K))
        have eT : D.tup (rowx.map fun i => tS (ps.getD i [])) = tT (pickPs ps rowx) := by unfold tT pickPs; rw [List.map_map]; rfl
        rw [eT] at gdv
        have hvl := rvs.len
        rw [List.length_map] at hvl
        have hcl2 := chl i
        refine s_appendP (i := 3) rfl (fun Q hQ => gdv.ownD gg11.gh gR111 hR111 (by intro _ z; cases z) (tOnlys_tSs _) Q hQ) hR011 (by omega) fun v12 G12 H12 g12 r12 hR12 => ?_
        refine ⟨G12, vs ++ [v12], _, _, _, _, rfl, (gg11.trans g12).put (.inl hRH) (g12.off gR011 hR011), (e7.trans (g8.gg.trans (g9.gg.trans g10.gg))).trans (e10.trans (g11.gg.trans g12.gg)), g12.off gR011 hR011, upd_same, ?_, hi'⟩
        rw [hcl, List.map_append, ← hchain]
        exact (rvs10.mono (e10.trans (g11.gg.trans g12.gg))).append (.one r12)
    · have gg9 := gg8.trans g9
      refine ⟨G9, vs, _, _, _, _, rfl, gg9, e7.trans (g8.gg.trans g9.gg), g9.off gR8 hR8, g9.at0 hR8, ?_, hi'⟩
      rw [rsucc, if_neg (by rw [hst]; simp), List.append_nil]
      exact rvs.mono (g8.gg.trans g9.gg)
  · rintro σ' G' H' ⟨vs, h5, h6, h7, h8, rfl, gg, e7, gR, hR, rvs, hi⟩
    refine gd_cb (ga_one (gd_var (i := 3) (G := upd G' R0 (.lst vs)) rfl (.lst upd_same (rvs.mono (Ex.new gR))))) rb_tupL H' (gg.gh.own hR) _ fun v G8 H8 g8 r8 => ?_
    have gs := (gg.seal hRH hR).trans g8
    refine q v G8 H8 gs ?_
    have : chn ps.length = chainsOf ps := by unfold chainsOf chainsN; rw [hm]
    rw [← this]
    exact r8
end
end Up

/-! text Up11 -/
set_option Elab.async false
set_option linter.all false
set_option maxRecDepth 100000
set_option maxHeartbeats 4000000
/-! width, list_through, fewest_lists -/
namespace Up
open PySem PySem.Spec PyProof.Rows L2 UpS
section
variable {σ : L2.St} {G H : Hp} {tr : TA} {tz : TS} {En : Ends}
theorem sq_tpar {i j : Nat} {x y : D} (h : GA tr σ G [x, y]) (e : Ex G H) (k : ∀ a b G' H', Gr N0 G H G' H' → Rp G' x a → Rp G' y b → tz En ((σ.set i (some a)).set j (some b)) H') : tSeq (tPar i j tr) tz En σ H := h H e _ fun vs G1 H1 g r => by
  obtain ⟨a, b, rfl, ra, rb⟩ := r.i2
  exact ⟨a, b, rfl, k a b G1 H1 g ra rb⟩
end
def throughGo (b : Bk) : T2 → T1 → Option T1
  | [], row => some (grownM b row (whole b) (whole b).length)
  | p :: r, row => if isWithin row p = true then throughGo b r (grownM b row p p.length) else none
def listThrough (b : Bk) (chain : T2) : Option T1 := throughGo b chain []
def oD : Option T1 → D
  | none => .non
  | some l => tS l
def fewestM (b : Bk) : List (Option T1) := (pathChains b).map (listThrough b)
theorem grow_len {b : Bk} {a : T1} {n : Nat} : ∀ (k : Nat) (o : T1), (growGo b a n k o).length ≤ o.length + left a o
  | 0, o => Nat.le_add_right _ _
  | k + 1, o => by
    unfold growGo
    split
    · cases hc : a.filter (lets b o) with
      | nil => exact Nat.le_add_right _ _
      | cons u r =>
        have hu := filter_head hc
        have h1 := grow_len (b := b) (a := a) (n := n) k (o ++ [u])
        have h2 := left_lt hu.1 (lets_out hu.2)
        rw [List.length_append, List.length_singleton] at h1
        simp only
        omega
    · exact Nat.le_add_right _ _
theorem grown_len (b : Bk) (r a : T1) (n : Nat) : (grownM b r a n).length ≤ r.length + a.length := by
  have h1 := grow_len (b := b) (a := a) (n := n) (a.length + 1) r
  have h2 := left_le a r
  unfold grownM
  omega
theorem whole_in (b : Bk) : (whole b).length ≤ b.length ∧ ∀ u ∈ whole b, u ∈ names b := by
  have hm : ∀ u ∈ whole b, u ∈ rowWithin b (names b) := fun u hu => by
    unfold whole greatest setOf at hu
    exact mem_sset.mp hu
  refine ⟨?_, fun u hu => row_sub b (names b) u (hm u hu)⟩
  have h1 := lenLe (sset_sst ordS (rowWithin b (names b)) |>.nodup ordS) (m := rowWithin b (names b)) fun u hu => mem_sset.mp hu
  have h2 := row_len b (names b)
  unfold names at h2
  rw [List.length_map] at h2
  unfold whole greatest setOf
  unfold names at h1 ⊢
  omega
section
variable {P : Program} {w : World} {K : PySem.W.Frag} {mg : Str → Option Value} {base : Heap}
def fWidth : List D → D → Prop := fun ds d => ∃ x b, ds = [x] ∧ IsBk x b ∧ Fine b ∧ d = .int ((pathChains b).length : Nat)
theorem ok_width (M : Mo mg) (h : Df K mg "width" s_width p_width) (hC : At P w K mg base "path_chains" s_path_chains p_path_chains 43 (spD 1 fChains)) : At P w K mg base "width" s_width p_width 44 (spD 1 fWidth) := by
  obtain ⟨f_path_chains, fd_path_chains, F_path_chains, b_path_chains, g_path_chains, G_path_chains⟩ := hC
  obtain ⟨f, fd, F, b, g⟩ := h
  refine ⟨f, fd, F, b, g, F.ok c_width (fun vs H Q E h => h.1) (fun cdv A outer s H vs Q E hr h => ?_)⟩
  obtain ⟨_, ds, d, G, e, r, ⟨x, bk, rfl, hb, S, rfl⟩, q⟩ := h
  obtain ⟨v0, rfl, r0⟩ := r.i1
  refine ⟨_, (pss_one
    (ps_ret (pe_callB (k_len K) (by rfl) M.len_ PySem.boot_len (pa_cons (pe_call G_path_chains (hr.mono (by omega)) (by rfl) g_path_chains F_path_chains.kp b_path_chains .nil pass0 (pa_cons (pv 0) pa_nil)) pa_nil)))), ?_⟩
  exact gd_is (gd_cb (ga_one (gd_call (ga_one (gd_var (i := 0) rfl r0)) rfl ⟨x, bk, rfl, hb, S, rfl⟩)) rb_lenT) (by rw [List.length_map]) H e Q q
def fThrough : List D → D → Prop := fun ds d => ∃ x b c, ds = [x, tT c] ∧ IsBk x b ∧ Sm b ∧ c.length ≤ 50 ∧ (∀ p ∈ c, p.length ≤ 10 ∧ ∀ u ∈ p, u ∈ names b) ∧ c.Pairwise (fun p q => p.length ≤ q.length) ∧ d = oD (listThrough b c)
theorem ok_list_through (M : Mo mg) (h : Df K mg "list_through" s_list_through p_list_through) (hW : At P w K mg base "whole" s_whole p_whole 7 (spD 1 fWhole)) (hT : At P w K mg base "tupled" s_tupled p_tupled 3 (spD 1 (fTup 3)))
    (hI : At P w K mg base "is_within" s_is_within p_is_within 1 (spD 2 fIsWithin)) (hG : At P w K mg base "grown" s_grown p_grown 2 (spD 4 fGrown)) : At P w K mg base "list_through" s_list_through p_list_through 8 (spD 2 fThrough) := by
  obtain ⟨f_whole, fd_whole, F_whole, b_whole, g_whole, G_whole⟩ := hW
  obtain ⟨f_tupled, fd_tupled, F_tupled, b_tupled, g_tupled, G_tupled⟩ := hT
  obtain ⟨f_is_within, fd_is_within, F_is_within, b_is_within, g_is_within, G_is_within⟩ := hI
  obtain ⟨f_grown, fd_grown, F_grown, b_grown, g_grown, G_grown⟩ := hG
  obtain ⟨f, fd, F, b, g⟩ := h
  refine ⟨f, fd, F, b, g, F.ok c_list_through (fun vs H Q E h => h.1) (fun cdv A outer s H vs Q E hr h => ?_)⟩
  obtain ⟨_, ds, d, G, e, r, ⟨x, bk, c, rfl, hb, S, hcl, hc, hs, rfl⟩, q⟩ := h
  obtain ⟨v0, v1, rfl, r0, r1⟩ := r.i2
  refine ⟨_, (pss_cons
    (ps_par (i := 2) (j := 3) rfl c_list_through.nd rfl rfl (by decide) rfl rfl (pa_cons (pe_tup pa_nil) (pa_cons (pe_call G_whole (hr.mono (by omega)) (by rfl) g_whole F_whole.kp b_whole .nil pass0 (pa_cons (pv 0) pa_nil)) pa_nil)) (by rfl))
    (pss_cons
    (ps_for PassesOwn.never rfl (k_seq K (k_sortLen K hr.units (by rfl) M.sorted_ (by rfl) M.len_ (pe_call G_tupled (hr.mono (by omega)) (by rfl) g_tupled F_tupled.kp b_tupled .nil pass0 (pa_cons (pv 1) pa_nil)))) (pg_name (i := 4) c_list_through.nd rfl (by first | exact .inl rfl | exact .inr rfl)) (pss_cons
        (ps_if (pt_not (pt_val (pe_call G_is_within (hr.mono (by omega)) (by rfl) g_is_within F_is_within.kp b_is_within .nil pass0 (pa_cons (pv 2) (pa_cons (pv 4) pa_nil))))) (pss_one
            (ps_ret pe_non)) pss_nil)
        (pss_one
        (ps_set (i := 2) c_list_through.nd rfl (by first | exact .inl rfl | exact .inr rfl) (pe_call G_grown (hr.mono (by omega)) (by rfl) g_grown F_grown.kp b_grown .nil pass0 (pa_cons (pv 0) (pa_cons (pv 2) (pa_cons (pv 4) (pa_cons (pe_callB (k_len K) (by rfl) M.len_ PySem.boot_len (pa_cons (pv 4) pa_nil)) pa_nil)))))))))
    (pss_one
    (ps_ret (pe_call G_grown (hr.mono (by omega)) (by rfl) g_grown F_grown.kp b_grown .nil pass0 (pa_cons (pv 0) (pa_cons (pv 2) (pa_cons (pv 3) (pa_cons (pe_callB (k_len K) (by rfl) M.len_ PySem.boot_len (pa_cons (pv 3) pa_nil)) pa_nil))))))))), ?_⟩
  have len := S.len
  have hwl := whole_in bk
  refine sq_tpar (ga_two (gd_tup ga_nil (Nat.zero_le _)) (gd_call (ga_one (gd_var (i := 0) rfl r0)) rfl ⟨x, bk, rfl, hb, S, rfl⟩)) e fun v2 v3 G2 H2 gg2 r2 r3 => ?_
  have hsh := sh_T2 (ns := c) (by omega) (fun n hn => by have := (hc n hn).1; omega) false
  refine sd_for (gi_seqL (GL.gd (gl_cb (ga_one (gd_is (gd_call (ga_one (gd_var (i := 1) rfl (r1.mono gg2.gg))) rfl ⟨_, rfl, hsh.1, rfl⟩) hsh.2)) (rl_sortLen hs)))) gg2.gh fun G3 H3 g3 => ?_
  have gg3 := gg2.trans g3
  rw [List.length_map]
  refine ⟨fun i σ' G' H' => ∃ row v2 h4, σ' = [some v0, some v1, some v2, some v3, h4] ∧ Gr N0 G H G' H' ∧ Ex G3 G' ∧ Rp G' (tS row) v2 ∧ row.length ≤ 10 * i ∧ i ≤ c.length ∧ throughGo bk (c.drop i) row = listThrough bk c,
    ⟨[], v2, none, rfl, gg3, .refl _, r2.mono g3.gg, Nat.le_refl _, Nat.zero_le _, by rw [List.drop_zero]; rfl⟩, ?_, ?_, ?_⟩
  · rintro i σ' G' H' ⟨row, v2, h4, rfl, gg, e3, _⟩
    exact ⟨e3, gg.gh⟩
  · rintro i dd σ' G' H' v4 G4 H4 hdd ⟨row, v2, h4, rfl, gg, e3, rr, hrl, hi, hth⟩ g4 r4
    obtain ⟨p, hp, rfl⟩ : ∃ p, c[i]? = some p ∧ dd = tS p := by
      rw [List.getElem?_map] at hdd
      cases q9 : c[i]? with
      | none => rw [q9] at hdd; cases hdd
      | some p => rw [q9] at hdd; cases hdd; exact ⟨p, rfl, rfl⟩
    have hpm := hc p (List.mem_of_getElem? hp)
    have hic : i < c.length := (List.getElem?_eq_some_iff.mp hp).1
    have hdrop : c.drop i = p :: c.drop (i + 1) := by
      obtain ⟨hi, ei⟩ := List.getElem?_eq_some_iff.mp hp
      rw [List.drop_eq_getElem_cons hi, ei]
    rw [hdrop] at hth
    unfold throughGo at hth
    have gg4 := gg.trans g4
    refine sq_if (b := !isWithin row p) (gt_not (gt_test (gd_call (ga_two (gd_var (i := 2) rfl (rr.mono g4.gg)) (gd_var (i := 4) rfl r4)) rfl ⟨_, _, row, p, rfl, .inl rfl, .inl rfl, by omega, rfl⟩))) g4.gh (fun hf G5 H5 g5 => ?_) fun hf G5 H5 g5 => ?_
    · rw [Bool.not_eq_true'] at hf
      rw [if_neg (by rw [hf]; simp)] at hth
      rw [← hth] at q
      exact q .non G5 H5 (gg4.trans g5) .non
    · rw [Bool.not_eq_false'] at hf
      rw [if_pos hf] at hth
      have g45 := g4.trans g5
      have gl := grown_len bk row p p.length
      refine s_asg (gd_call (ga_cons (gd_var (i := 0) rfl (r0.mono (gg4.gg.trans g5.gg))) (ga_cons (gd_var (i := 2) rfl (rr.mono g45.gg)) (ga_cons (gd_var (i := 4) rfl (r4.mono g5.gg)) (ga_one (gd_is (gd_cb (ga_one (gd_var (i := 4) rfl (r4.mono g5.gg))) rb_lenT) (by rw [List.length_map])))))) rfl
        ⟨x, _, _, bk, row, p, p.length, rfl, hb, .inl rfl, .inl rfl, S, by omega, by omega, hpm.2, rfl⟩) g5.gh fun v2' G6 H6 g6 r6 => ?_
      exact ⟨G6, grownM bk row p p.length, v2', _, rfl, gg4.trans (g5.trans g6), e3.trans (g45.gg.trans g6.gg), r6, by omega, hic, hth⟩
  · rintro σ' G' H' ⟨row, v2, h4, rfl, gg, e3, rr, hrl, hi, hth⟩
    rw [List.drop_length] at hth
    unfold throughGo at hth
    rw [← hth] at q
    have e' := gg.gg
    refine gd_call (ga_cons (gd_var (i := 0) rfl (r0.mono e')) (ga_cons (gd_var (i := 2) rfl rr) (ga_cons (gd_var (i := 3) rfl (r3.mono (g3.gg.trans e3))) (ga_one (gd_is (gd_cb (ga_one (gd_var (i := 3) rfl (r3.mono (g3.gg.trans e3)))) rb_lenT) (by rw [List.length_map])))))) rfl
        ⟨x, _, _, bk, row, whole bk, (whole bk).length, rfl, hb, .inl rfl, .inl rfl, S, by omega, by have := hwl.1; omega, hwl.2, rfl⟩ H' gg.gh _ fun v G6 H6 g6 r6 => q v G6 H6 (gg.trans g6) r6
end
theorem chain_up {lt : List (Nat × Nat)} {L : Nat → Nat} (h : ∀ x y, lookM lt x = some y → L x < L y) : ∀ (n x : Nat), (chainGo lt n x).length ≤ n + 1 ∧ (chainGo lt n x).Pairwise (fun i j => L i < L j) ∧ ∀ y ∈ chainGo lt n x, L x ≤ L y
  | 0, x => ⟨Nat.le_refl _, List.pairwise_singleton _ _, fun y hy => by rw [List.mem_singleton.mp hy]; exact Nat.le_refl _⟩
  | n + 1, x => by
    unfold chainGo
    cases q : lookM lt x with
    | none => exact ⟨by simp, List.pairwise_singleton _ _, fun y hy => by rw [List.mem_singleton.mp hy]; exact Nat.le_refl _⟩
    | some y =>
      obtain ⟨h1, h2, h3⟩ := chain_up h n y
      have hxy := h x y q
      refine ⟨by simp only [List.length_cons]; omega, List.pairwise_cons.mpr ⟨fun z hz => by have := h3 z hz; omega, h2⟩, fun z hz => ?_⟩
      rcases List.mem_cons.mp hz with e | e
      · rw [e]; exact Nat.le_refl _
      · have := h3 z e; omega
theorem chains_ok {b : Bk} (S : Fine b) {c : T2} (h : c ∈ pathChains b) : c.length ≤ 50 ∧ (∀ p ∈ c, p.length ≤ 10 ∧ ∀ u ∈ p, u ∈ names b) ∧ c.Pairwise fun p q => p.length ≤ q.length := by
  have hsst : ∀ t ∈ allPaths b, Sst ltS t := fun t ht => (stand_sst (mem_allPaths ht)).1
  have few := S.few
  have lb : (behindM (allPaths b)).length = (allPaths b).length := by unfold behindM; rw [List.length_map]
  have R := matched_inv (aok_behind (allPaths b)) (by rw [lb]; exact few) (behindM (allPaths b)).length (Nat.le_refl _)
  change MInv (behindM (allPaths b)) (behindM (allPaths b)).length (matchedM (behindM (allPaths b))) at R
  unfold pathChains chainsOf at h
  obtain ⟨ci, hci, rfl⟩ := List.mem_map.mp h
  unfold chainsN at hci
  obtain ⟨x, hx, rfl⟩ := List.mem_map.mp hci
  have up := chain_up (lt := laterM (matchedM (behindM (allPaths b)))) (L := fun i => ((allPaths b).getD i []).length) (fun x y hq => (edge_lt hsst few (later_look hq R.inv.nd)).2.2) 40 x
  unfold pickPs
  refine ⟨by rw [List.length_map]; omega, fun p hp => ?_, List.pairwise_map.mpr (List.Pairwise.imp (fun {i j} h => Nat.le_of_lt h) up.2.1)⟩
  obtain ⟨i, hi, rfl⟩ := List.mem_map.mp hp
  rw [List.getD_eq_getElem?_getD]
  cases q : (allPaths b)[i]? with
  | none => exact ⟨Nat.zero_le _, fun u hu => nomatch hu⟩
  | some t =>
    have ht := mem_allPaths (List.mem_of_getElem? q)
    exact ⟨Nat.le_trans (standK_len ht) S.sm.len, (stand_sst ht).2⟩
section
variable {P : Program} {w : World} {K : PySem.W.Frag} {mg : Str → Option Value} {base : Heap}
def fFewest : List D → D → Prop := fun ds d => ∃ x b, ds = [x] ∧ IsBk x b ∧ Fine b ∧ d = .tup ((fewestM b).map oD)
theorem chains_few {b : Bk} (S : Fine b) : (pathChains b).length ≤ 40 := by
  unfold pathChains chainsOf chainsN
  rw [List.length_map, List.length_map]
  refine Nat.le_trans (List.length_filter_le _ _) ?_
  rw [List.length_range]; exact S.few
theorem ok_fewest_lists (M : Mo mg) (h : Df K mg "fewest_lists" s_fewest_lists p_fewest_lists) (hC : At P w K mg base "path_chains" s_path_chains p_path_chains 43 (spD 1 fChains)) (hT : At P w K mg base "list_through" s_list_through p_list_through 8 (spD 2 fThrough)) :
    At P w K mg base "fewest_lists" s_fewest_lists p_fewest_lists 44 (spD 1 fFewest) := by
  obtain ⟨f_path_chains, fd_path_chains, F_path_chains, b_path_chains, g_path_chains, G_path_chains⟩ := hC
  obtain ⟨f_list_through, fd_list_through, F_list_through, b_list_through, g_list_through, G_list_through⟩ := hT
  obtain ⟨f, fd, F, b, g⟩ := h
  refine ⟨f, fd, F, b, g, F.ok c_fewest_lists (fun vs H Q E h => h.1) (fun cdv A outer s H vs Q E hr h => ?_)⟩
  obtain ⟨_, ds, d, G, e, r, ⟨x, bk, rfl, hb, S, rfl⟩, q⟩ := h
  obtain ⟨v0, rfl, r0⟩ := r.i1
  refine ⟨_, (pss_one
    (ps_ret (pe_callTy (k_tuple K) (by rfl) M.tuple_ PyProof.Rows.boot_tuple (pa_cons (pe_lc (own := [("chain", 1)]) rfl c_fewest_lists.nd (k_seq K (pe_call G_path_chains (hr.mono (by omega)) (by rfl) g_path_chains F_path_chains.kp b_path_chains .nil pass0 (pa_cons (pv 0) pa_nil))) (blkOk_by (by kernel_rfl)) (fun _ _ _ _ _ => (pg_name (i := 1) c_fewest_lists.nd rfl (by first | exact .inl rfl | exact .inr rfl))) (fun _ _ _ _ _ => pts_nil) (fun _ _ _ _ _ => (pe_call G_list_through (hr.mono (by omega)) (by rfl) g_list_through F_list_through.kp b_list_through .nil pass0 (pa_cons (pv 0) (pa_cons (pv 1) pa_nil))))) pa_nil)))), ?_⟩
  have few := chains_few S
  refine gd_is (gd_cb (ga_one (GL.gd (gl_lc0 (xs := pathChains bk) (e := tT) (f := fun c => oD (listThrough bk c)) (gi_seqT (gd_call (ga_one (gd_var (i := 0) rfl r0)) rfl ⟨x, bk, rfl, hb, S, rfl⟩)) (by omega) (fun _ => rfl) fun c hc G' v e' rv => ?_))) rb_tupL) ?_ H e Q q
  · obtain ⟨c1, c2, c3⟩ := chains_ok S hc
    exact gd_call (ga_two (gd_var (i := 0) rfl (r0.mono e')) (gd_var (i := 1) rfl rv)) rfl ⟨x, bk, c, rfl, hb, S.sm, c1, c2, c3, rfl⟩
  · unfold fewestM; rw [List.map_map]; rfl
end
end Up

/-! text UpTh1 -/
set_option Elab.async false
set_option linter.all false
set_option maxRecDepth 100000
set_option maxHeartbeats 2000000
/-! standings and paths, in plain words -/
namespace Up
open PySem UpS
/-- a row of units, each let up by those ahead of it -/
inductive Row (b : Bk) : T1 → Prop
  | nil : Row b []
  | snoc {r : T1} {u : Str} : Row b r → u ∈ names b → lets b r u = true → Row b (r ++ [u])
theorem lets_iff {b : Bk} {f : T1} {u : Str} : lets b f u = true ↔ u ∉ f ∧ ∃ n ∈ needsOf b u, ∀ o ∈ n, o ∈ f := by
  unfold lets
  rw [Bool.and_eq_true, Bool.not_eq_true', decide_eq_false_iff_not, List.any_eq_true]
  constructor
  · rintro ⟨h1, n, hn, h2⟩
    refine ⟨h1, n, hn, fun o ho => ?_⟩
    have := List.all_eq_true.mp h2 o ho
    simpa using this
  · rintro ⟨h1, n, hn, h2⟩
    exact ⟨h1, n, hn, List.all_eq_true.mpr fun o ho => by simpa using h2 o ho⟩
theorem lets_mono {b : Bk} {f g : T1} {u : Str} (h : lets b f u = true) (s : ∀ x ∈ f, x ∈ g) (n : u ∉ g) : lets b g u = true := by
  obtain ⟨_, nd, hn, ho⟩ := lets_iff.mp h
  exact lets_iff.mpr ⟨n, nd, hn, fun o h => s o (ho o h)⟩
theorem Row.nodup {b : Bk} {r : T1} (h : Row b r) : r.Nodup := by
  induction h with
  | nil => exact List.nodup_nil
  | snoc _ _ hl ih => exact nodup_snoc ih (lets_out hl)
theorem Row.names {b : Bk} {r : T1} (h : Row b r) : ∀ x ∈ r, x ∈ names b := by
  induction h with
  | nil => intro x hx; cases hx
  | snoc _ hu _ ih =>
    intro x hx
    rcases List.mem_append.mp hx with z | z
    · exact ih x z
    · rw [List.mem_singleton.mp z]; exact hu
theorem Row.take {b : Bk} {r : T1} (h : Row b r) : ∀ k, Row b (r.take k) := by
  induction h with
  | nil => intro k; rw [List.take_nil]; exact .nil
  | @snoc r u hr hu hl ih =>
    intro k
    rcases Nat.lt_or_ge r.length k with z | z
    · rw [List.take_of_length_le (by rw [List.length_append, List.length_singleton]; omega)]
      exact .snoc hr hu hl
    · rw [List.take_append_of_le_length z]; exact ih k
/-- a row that holds both -/
theorem Row.union {b : Bk} {r q : T1} (h : Row b r) (g : Row b q) : ∃ w, Row b w ∧ ∀ x, x ∈ w ↔ x ∈ r ∨ x ∈ q := by
  induction g with
  | nil => exact ⟨r, h, fun x => ⟨.inl, fun z => z.elim id fun y => nomatch y⟩⟩
  | @snoc q u _ hu hl ih =>
    obtain ⟨w, hw, hm⟩ := ih
    by_cases z : u ∈ w
    · refine ⟨w, hw, fun x => ?_⟩
      rw [hm, List.mem_append, List.mem_singleton]
      constructor
      · rintro (h | h)
        · exact .inl h
        · exact .inr (.inl h)
      · rintro (h | h | h)
        · exact .inl h
        · exact .inr h
        · rw [h]; exact (hm u).mp z
    · refine ⟨w ++ [u], .snoc hw hu (lets_mono hl (fun x hx => (hm x).mpr (.inr hx)) z), fun x => ?_⟩
      rw [List.mem_append, List.mem_singleton, hm, List.mem_append, List.mem_singleton]
      constructor
      · rintro ((h | h) | h)
        · exact .inl h
        · exact .inr (.inl h)
        · exact .inr (.inr h)
      · rintro (h | h | h)
        · exact .inl (.inl h)
        · exact .inl (.inr h)
        · exact .inr h
/-- the members of a row, in order -/
def St (b : Bk) (s : T1) : Prop := Sst ltS s ∧ ∃ r, Row b r ∧ ∀ x, x ∈ s ↔ x ∈ r
theorem St.of_row {b : Bk} {r : T1} (h : Row b r) : St b (setOf r) := ⟨sset_sst ordS r, r, h, fun _ => mem_sset⟩
theorem St.eq {b : Bk} {s t : T1} (h : St b s) (g : St b t) (m : ∀ x, x ∈ s ↔ x ∈ t) : s = t := sst_ext ordS h.1 g.1 m
theorem St.names {b : Bk} {s : T1} (h : St b s) : ∀ x ∈ s, x ∈ Up.names b := fun x hx => by
  obtain ⟨_, r, hr, hm⟩ := h
  exact hr.names x ((hm x).mp hx)
theorem St.nil (b : Bk) : St b [] := ⟨List.Pairwise.nil, [], .nil, fun _ => Iff.rfl⟩
theorem St.add {b : Bk} {s : T1} {u : Str} (h : St b s) (hu : u ∈ Up.names b) (hl : lets b s u = true) : St b (setOf (s ++ [u])) := by
  obtain ⟨_, r, hr, hm⟩ := h
  refine ⟨sset_sst ordS _, r ++ [u], .snoc hr hu (lets_mono hl (fun x hx => (hm x).mp hx) (fun z => lets_out hl ((hm u).mpr z))), fun x => ?_⟩
  show x ∈ sset ltS (s ++ [u]) ↔ _
  rw [mem_sset, List.mem_append, List.mem_append, hm]
theorem St.union {b : Bk} {s t : T1} (h : St b s) (g : St b t) : St b (setOf (s ++ t)) := by
  obtain ⟨_, r, hr, hm⟩ := h
  obtain ⟨_, q, hq, hn⟩ := g
  obtain ⟨w, hw, hx⟩ := hr.union hq
  refine ⟨sset_sst ordS _, w, hw, fun x => ?_⟩
  show x ∈ sset ltS (s ++ t) ↔ _
  rw [mem_sset, List.mem_append, hm, hn, hx]
/-- within a standing t, one that is less can grow -/
theorem St.grow {b : Bk} {t : T1} (h : St b t) {f : T1} (hf : ∀ x ∈ f, x ∈ t) (n : ¬ ∀ x ∈ t, x ∈ f) : ∃ u ∈ t, lets b f u = true := by
  obtain ⟨_, r, hr, hm⟩ := h
  have key : ∀ {r : T1}, Row b r → (∀ x ∈ r, x ∈ t) → (¬ ∀ x ∈ r, x ∈ f) → ∃ u ∈ t, lets b f u = true := by
    intro r hr
    induction hr with
    | nil => intro _ h; exact absurd (fun x hx => nomatch hx) h
    | @snoc r u _ hu hl ih =>
      intro hs hn
      by_cases z : ∀ x ∈ r, x ∈ f
      · have hu' : u ∉ f := fun y => hn fun x hx => by
          rcases List.mem_append.mp hx with w | w
          · exact z x w
          · rw [List.mem_singleton.mp w]; exact y
        exact ⟨u, hs u (List.mem_append_right _ (List.mem_singleton.mpr rfl)), lets_mono hl z hu'⟩
      · exact ih (fun x hx => hs x (List.mem_append_left _ hx)) z
  exact key hr (fun x hx => (hm x).mpr hx) fun z => n fun x hx => z x ((hm x).mp hx)

/-! ### the walk finds them all -/
theorem mem_setOf {l : T1} {x : Str} : x ∈ setOf l ↔ x ∈ l := mem_sset
/-- what the walk has: standings, and all that grow of those no longer fresh -/
structure WInv (b : Bk) (st : SSt) : Prop where
  inv : SInv b st
  sd : ∀ t ∈ st.1.map (·.1), St b t
  nil : [] ∈ st.1.map (·.1)
  cl : ∀ t ∈ st.1.map (·.1), t ∉ st.2 → ∀ u ∈ names b, lets b t u = true → setOf (t ++ [u]) ∈ st.1.map (·.1)
theorem step_keys {b : Bk} {here : T1} {st : SSt} {u : Str} : (∀ t ∈ st.1.map (·.1), t ∈ (sStep b here st u).1.map (·.1)) ∧ (∀ t ∈ (sStep b here st u).1.map (·.1), t ∈ st.1.map (·.1) ∨ (lets b here u = true ∧ t = setOf (here ++ [u]) ∧ t ∈ (sStep b here st u).2)) ∧ (∀ t ∈ st.2, t ∈ (sStep b here st u).2) ∧
    (lets b here u = true → setOf (here ++ [u]) ∈ (sStep b here st u).1.map (·.1)) := by
  unfold sStep
  by_cases h1 : lets b here u = true
  · rw [if_pos h1]
    by_cases h2 : setOf (here ++ [u]) ∈ st.1.map (·.1)
    · rw [if_pos h2]; exact ⟨fun _ h => h, fun _ h => .inl h, fun _ h => h, fun _ => h2⟩
    · rw [if_neg h2]
      refine ⟨fun t h => ?_, fun t h => ?_, fun t h => List.mem_append_left _ h, fun _ => ?_⟩
      · rw [List.map_append]; exact List.mem_append_left _ h
      · rw [List.map_append] at h
        rcases List.mem_append.mp h with z | z
        · exact .inl z
        · have e : t = setOf (here ++ [u]) := List.mem_singleton.mp z
          exact .inr ⟨h1, e, List.mem_append_right _ (by rw [e]; exact List.mem_singleton.mpr rfl)⟩
      · rw [List.map_append]; exact List.mem_append_right _ (List.mem_singleton.mpr rfl)
  · rw [if_neg h1]; exact ⟨fun _ h => h, fun _ h => .inl h, fun _ h => h, fun h => absurd h h1⟩
/-- in the middle of the walk's step -/
structure XInv (b : Bk) (here : T1) (done : T1) (st : SSt) : Prop where
  inv : SInv b st
  sd : ∀ t ∈ st.1.map (·.1), St b t
  nil : [] ∈ st.1.map (·.1)
  hh : here ∈ st.1.map (·.1)
  cl : ∀ t ∈ st.1.map (·.1), t ∉ st.2 → t ≠ here → ∀ u ∈ names b, lets b t u = true → setOf (t ++ [u]) ∈ st.1.map (·.1)
  ch : ∀ u ∈ done, lets b here u = true → setOf (here ++ [u]) ∈ st.1.map (·.1)
theorem XInv.step {b : Bk} {here done : T1} {st : SSt} {u : Str} (X : XInv b here done st) (hu : u ∈ names b) : XInv b here (done ++ [u]) (sStep b here st u) := by
  obtain ⟨k1, k2, k3, k4⟩ := step_keys (b := b) (here := here) (st := st) (u := u)
  obtain ⟨i1, i2, _⟩ := X.inv.step X.hh hu
  refine ⟨i1, fun t ht => ?_, k1 _ X.nil, i2, fun t ht hn hne v hv hl => ?_, fun v hv hl => ?_⟩
  · rcases k2 t ht with z | ⟨z, e, _⟩
    · exact X.sd t z
    · rw [e]; exact (X.sd here X.hh).add hu z
  · rcases k2 t ht with z | ⟨_, _, z⟩
    · exact k1 _ (X.cl t z (fun y => hn (k3 t y)) hne v hv hl)
    · exact absurd z hn
  · rcases List.mem_append.mp hv with z | z
    · exact k1 _ (X.ch v z hl)
    · rw [List.mem_singleton.mp z] at hl ⊢; exact k4 hl
theorem XInv.fold {b : Bk} {here : T1} : ∀ {l done : T1} {st : SSt}, (∀ u ∈ l, u ∈ names b) → XInv b here done st → XInv b here (done ++ l) (l.foldl (sStep b here) st)
  | [], done, st, _, X => by rw [List.append_nil]; exact X
  | u :: l, done, st, h, X => by
    have := XInv.fold (fun v hv => h v (List.mem_cons_of_mem _ hv)) (X.step (h u List.mem_cons_self))
    rw [List.append_assoc] at this
    exact this
theorem fold_count {b : Bk} {here : T1} : ∀ (l : T1) (st : SSt), (∀ u ∈ l, u ∈ names b) → SInv b st → here ∈ st.1.map (·.1) → (l.foldl (sStep b here) st).1.length + st.2.length = st.1.length + (l.foldl (sStep b here) st).2.length
  | [], _, _, _, _ => rfl
  | u :: l, st, h, I, hh => by
    obtain ⟨i1, i2, i3⟩ := I.step hh (h u List.mem_cons_self)
    have := fold_count l (sStep b here st u) (fun v hv => h v (List.mem_cons_of_mem _ hv)) i1 i2
    show (l.foldl (sStep b here) (sStep b here st u)).1.length + _ = _ + (l.foldl (sStep b here) (sStep b here st u)).2.length
    omega
theorem walk_all {b : Bk} : ∀ (m : Nat) (st : SSt), WInv b st → m + st.1.length = 2 ^ b.length + st.2.length → WInv b (sLoop b m st, [])
  | 0, (f, fr), W, h => by
    have few := W.inv.few
    have : fr = [] := List.eq_nil_of_length_eq_zero (by simp only at few h; omega)
    subst this
    exact W
  | m + 1, (f, fr), W, h => by
    rcases List.eq_nil_or_concat fr with rfl | ⟨fr0, here, rfl⟩
    · exact W
    · simp only [List.concat_eq_append] at W h ⊢
      unfold sLoop
      simp only [List.getLast?_concat, List.dropLast_concat]
      have hh : here ∈ f.map (·.1) := W.inv.fr here (List.mem_append_right _ (List.mem_singleton.mpr rfl))
      have I0 : SInv b (f, fr0) := ⟨W.inv.nd, W.inv.srt, W.inv.len, fun t ht => W.inv.fr t (List.mem_append_left _ ht)⟩
      have X0 : XInv b here [] (f, fr0) := ⟨I0, W.sd, W.nil, hh, fun t ht hn hne => W.cl t ht fun z => by
        rcases List.mem_append.mp z with y | y
        · exact hn y
        · exact hne (List.mem_singleton.mp y), fun u hu => nomatch hu⟩
      have X1 := X0.fold (l := names b) fun u hu => hu
      have hc := fold_count (names b) (f, fr0) (fun u hu => hu) I0 hh
      refine walk_all m _ ⟨X1.inv, X1.sd, X1.nil, fun t ht hn u hu hl => ?_⟩ ?_
      · by_cases z : t = here
        · rw [z] at hl ⊢; exact X1.ch u (by rw [List.nil_append]; exact hu) hl
        · exact X1.cl t ht hn z u hu hl
      · rw [List.length_append, List.length_singleton] at h
        simp only at hc
        omega
theorem stand_walk (b : Bk) : WInv b (standM b, []) := by
  refine walk_all _ _ ⟨⟨List.nodup_cons.mpr ⟨List.not_mem_nil, List.nodup_nil⟩, fun p hp => ?_, fun p hp => ?_, fun t ht => ht⟩, fun t ht => ?_, List.mem_singleton.mpr rfl, fun t ht hn => absurd ht hn⟩ (by simp)
  · rw [List.mem_singleton.mp hp]; exact ⟨List.Pairwise.nil, fun x hx => nomatch hx⟩
  · rw [List.mem_singleton.mp hp]; exact Nat.le_refl _
  · have : t = [] := List.mem_singleton.mp ht
    rw [this]; exact St.nil b
theorem mem_standK {b : Bk} {t : T1} : t ∈ standK b ↔ St b t := by
  have W := stand_walk b
  refine ⟨W.sd t, fun ⟨hs, r, hr, hm⟩ => ?_⟩
  have key : ∀ {r : T1}, Row b r → setOf r ∈ standK b := by
    intro r hr
    induction hr with
    | nil => exact W.nil
    | @snoc r u hr hu hl ih =>
      have h1 := W.cl _ ih (fun z => nomatch z) u hu (lets_mono hl (fun x hx => mem_setOf.mpr hx) (fun z => lets_out hl (mem_setOf.mp z)))
      have e : setOf (setOf r ++ [u]) = setOf (r ++ [u]) := sst_ext ordS (sset_sst ordS _) (sset_sst ordS _) fun x => by
        rw [mem_setOf, mem_setOf, List.mem_append, List.mem_append]
        exact ⟨fun z => z.imp mem_setOf.mp id, fun z => z.imp mem_setOf.mpr id⟩
      rw [e] at h1
      exact h1
  have e : setOf r = t := sst_ext ordS (sset_sst ordS _) hs fun x => by rw [mem_setOf, hm]
  rw [← e]; exact key hr

/-! ### paths -/
theorem mem_without {a : T1} {u x : Str} : x ∈ withoutM a u ↔ x ∈ a ∧ x ≠ u := by
  unfold withoutM
  rw [List.mem_filter, Bool.not_eq_true', decide_eq_false_iff_not]
theorem sst_without {a : T1} (h : Sst ltS a) (u : Str) : Sst ltS (withoutM a u) := h.sub List.filter_sublist
theorem mem_endsIn {b : Bk} {a : T1} {u : Str} : u ∈ endsIn (standK b) a ↔ u ∈ a ∧ St b (withoutM a u) := by
  unfold endsIn endsP
  rw [List.mem_filter, decide_eq_true_eq, mem_standK]
def Path (b : Bk) (t : T1) : Prop := St b t ∧ ∃ u, endsIn (standK b) t = [u]
theorem mem_paths {b : Bk} {t : T1} : t ∈ allPaths b ↔ Path b t := by
  unfold allPaths endsPaths
  rw [List.mem_map]
  constructor
  · rintro ⟨p, hp, rfl⟩
    obtain ⟨t', ht', e⟩ := List.mem_filterMap.mp hp
    unfold endsOf at e
    split at e
    · rename_i u hu
      cases e
      exact ⟨mem_standK.mp (mem_isort.mp ht'), u, hu⟩
    · cases e
  · rintro ⟨hs, u, hu⟩
    refine ⟨(t, u), List.mem_filterMap.mpr ⟨t, mem_isort.mpr (mem_standK.mpr hs), ?_⟩, rfl⟩
    unfold endsOf
    rw [hu]
/-- a standing that isn't empty has an end -/
theorem St.hasEnd {b : Bk} {t : T1} (h : St b t) (n : t ≠ []) : ∃ u, u ∈ endsIn (standK b) t := by
  obtain ⟨hs, r, hr, hm⟩ := h
  cases hr with
  | nil =>
    cases t with
    | nil => exact absurd rfl n
    | cons x t => exact absurd ((hm x).mp List.mem_cons_self) List.not_mem_nil
  | @snoc r u hr hu hl =>
    refine ⟨u, mem_endsIn.mpr ⟨(hm u).mpr (List.mem_append_right _ (List.mem_singleton.mpr rfl)), sst_without hs u, r, hr, fun x => ?_⟩⟩
    have hn := lets_out hl
    rw [mem_without, hm, List.mem_append, List.mem_singleton]
    constructor
    · rintro ⟨z | z, y⟩
      · exact z
      · exact absurd z y
    · intro z; exact ⟨.inl z, fun y => hn (y ▸ z)⟩
/-- a standing within t but less: t without some end holds it -/
theorem St.under {b : Bk} {t : T1} (ht : St b t) : ∀ (k : Nat) {s : T1}, St b s → (∀ x ∈ s, x ∈ t) → t.length ≤ s.length + k → s ≠ t → ∃ u, u ∈ endsIn (standK b) t ∧ u ∉ s
  | 0, s, hs, hst, hk, n => by
    exfalso
    have sl := sst_sublist ordS ht.1 hs.1 hst
    exact n (sl.eq_of_length_le (by omega))
  | k + 1, s, hs, hst, hk, n => by
    have hn : ¬ ∀ x ∈ t, x ∈ s := fun z => n (hs.eq ht fun x => ⟨hst x, z x⟩)
    obtain ⟨u, hu, hl⟩ := ht.grow hst hn
    have hs2 := hs.add (ht.names u hu) hl
    have hsub : ∀ x ∈ setOf (s ++ [u]), x ∈ t := fun x hx => by
      rcases List.mem_append.mp (mem_setOf.mp hx) with z | z
      · exact hst x z
      · rw [List.mem_singleton.mp z]; exact hu
    by_cases e : setOf (s ++ [u]) = t
    · refine ⟨u, mem_endsIn.mpr ⟨hu, ?_⟩, lets_out hl⟩
      have : withoutM t u = s := sst_ext ordS (sst_without ht.1 u) hs.1 fun x => by
        rw [mem_without, ← e, mem_setOf, List.mem_append, List.mem_singleton]
        constructor
        · rintro ⟨z | z, y⟩
          · exact z
          · exact absurd z y
        · intro z; exact ⟨.inl z, fun y => lets_out hl (y ▸ z)⟩
      rw [this]; exact hs
    · have hlen := setOf_len hs.1 (lets_out hl)
      obtain ⟨v, hv, hvn⟩ := St.under ht k hs2 hsub (by omega) e
      exact ⟨v, hv, fun z => hvn (mem_setOf.mpr (List.mem_append_left _ z))⟩
/-- a path is no union of lesser standings -/
theorem Path.irr {b : Bk} {t : T1} (h : Path b t) : ∃ u ∈ t, ∀ s, St b s → (∀ x ∈ s, x ∈ t) → u ∈ s → s = t := by
  obtain ⟨hs, u, hu⟩ := h
  have hm : u ∈ endsIn (standK b) t := by rw [hu]; exact List.mem_singleton.mpr rfl
  refine ⟨u, (mem_endsIn.mp hm).1, fun s hs' hst hus => Classical.byContradiction fun n => ?_⟩
  obtain ⟨v, hv, hvn⟩ := St.under hs t.length hs' hst (by omega) n
  rw [hu] at hv
  exact hvn (by rw [List.mem_singleton.mp hv]; exact hus)
/-- every member of a standing lies in a path within it -/
theorem St.covered {b : Bk} : ∀ (k : Nat) {s : T1}, St b s → s.length ≤ k → ∀ x ∈ s, ∃ p, Path b p ∧ (∀ y ∈ p, y ∈ s) ∧ x ∈ p
  | 0, s, _, hk, x, hx => by
    have : s = [] := List.eq_nil_of_length_eq_zero (by omega)
    rw [this] at hx; cases hx
  | k + 1, s, hs, hk, x, hx => by
    obtain ⟨e, he⟩ := hs.hasEnd (fun z => by rw [z] at hx; cases hx)
    by_cases one : ∃ u, endsIn (standK b) s = [u]
    · exact ⟨s, ⟨hs, one⟩, fun y hy => hy, hx⟩
    · -- an end other than x
      have : ∃ v, v ∈ endsIn (standK b) s ∧ v ≠ x := by
        refine Classical.byContradiction fun n => one ⟨x, ?_⟩
        have all : ∀ v ∈ endsIn (standK b) s, v = x := fun v hv => Classical.byContradiction fun z => n ⟨v, hv, z⟩
        have nd : (endsIn (standK b) s).Nodup := List.Pairwise.filter _ (hs.1.nodup ordS)
        cases q : endsIn (standK b) s with
        | nil => rw [q] at he; cases he
        | cons a r =>
          rw [q] at all nd
          have ha := all a List.mem_cons_self
          cases r with
          | nil => rw [ha]
          | cons c r =>
            have hc := all c (List.mem_cons_of_mem _ List.mem_cons_self)
            exact absurd (by rw [ha, hc]; exact List.mem_cons_self) (List.nodup_cons.mp nd).1
      obtain ⟨v, hv, hvx⟩ := this
      obtain ⟨hv1, hv2⟩ := mem_endsIn.mp hv
      have hlen : (withoutM s v).length < s.length := by
        unfold withoutM
        exact List.length_filter_lt_length_iff_exists.mpr ⟨v, hv1, by simp⟩
      obtain ⟨p, hp, hps, hxp⟩ := St.covered k hv2 (by omega) x (mem_without.mpr ⟨hx, Ne.symm hvx⟩)
      exact ⟨p, hp, fun y hy => (mem_without.mp (hps y hy)).1, hxp⟩
end Up

/-! text UpTh2 -/
set_option Elab.async false
set_option linter.all false
set_option maxRecDepth 100000
set_option maxHeartbeats 2000000
/-! the lists of fewest_lists, what can be read of lists, and how few can do -/
namespace Up
open PySem UpS
/-! ### growing -/
theorem grow_row {b : Bk} {a : T1} {n : Nat} (ha : ∀ u ∈ a, u ∈ names b) : ∀ (k : Nat) {o : T1}, Row b o → Row b (growGo b a n k o) ∧ ∃ t, growGo b a n k o = o ++ t
  | 0, o, h => ⟨h, [], (List.append_nil o).symm⟩
  | k + 1, o, h => by
    unfold growGo
    split
    · cases hc : a.filter (lets b o) with
      | nil => exact ⟨h, [], (List.append_nil o).symm⟩
      | cons u r =>
        have hu := filter_head hc
        obtain ⟨h1, t, e⟩ := grow_row (n := n) ha k (Row.snoc h (ha u hu.1) hu.2)
        exact ⟨h1, u :: t, by simp only; rw [e, List.append_assoc]; rfl⟩
    · exact ⟨h, [], (List.append_nil o).symm⟩
theorem nodup_full {α : Type} [DecidableEq α] {o p : List α} (no : o.Nodup) (h : ∀ x ∈ o, x ∈ p) (l : p.length ≤ o.length) : ∀ x ∈ p, x ∈ o := fun x hx => Classical.byContradiction fun n => by
  have := lenLe (l := x :: o) (m := p) (List.nodup_cons.mpr ⟨n, no⟩) fun y hy => by
    rcases List.mem_cons.mp hy with e | e
    · rw [e]; exact hx
    · exact h y e
  rw [List.length_cons] at this
  omega
theorem grow_to {b : Bk} {p : T1} (hp : St b p) : ∀ (k : Nat) {o : T1}, Row b o → (∀ x ∈ o, x ∈ p) → left p o < k → ∀ x, x ∈ growGo b p p.length k o ↔ x ∈ p
  | 0, _, _, _, h => absurd h (Nat.not_lt_zero _)
  | k + 1, o, h, hs, hk => by
    unfold growGo
    by_cases hl : o.length < p.length
    · rw [if_pos hl]
      have hn : ¬ ∀ x ∈ p, x ∈ o := fun z => by
        have := lenLe (hp.1.nodup ordS) z
        omega
      obtain ⟨u, hu, hlu⟩ := hp.grow hs hn
      cases hc : p.filter (lets b o) with
      | nil =>
        have : u ∈ p.filter (lets b o) := List.mem_filter.mpr ⟨hu, hlu⟩
        rw [hc] at this; cases this
      | cons v r =>
        have hv := filter_head hc
        have hlt := left_lt hv.1 (lets_out hv.2)
        refine grow_to hp k (Row.snoc h (hp.names v hv.1) hv.2) (fun x hx => ?_) (by omega)
        rcases List.mem_append.mp hx with z | z
        · exact hs x z
        · rw [List.mem_singleton.mp z]; exact hv.1
    · rw [if_neg hl]
      exact fun x => ⟨hs x, nodup_full h.nodup hs (by omega) x⟩
theorem grown_to {b : Bk} {p r : T1} (hp : St b p) (hr : Row b r) (hs : ∀ x ∈ r, x ∈ p) : ∀ x, x ∈ grownM b r p p.length ↔ x ∈ p :=
  grow_to hp _ hr hs (by have := left_le p r; omega)
theorem within_iff {a p : T1} : isWithin a p = true ↔ ∀ x ∈ a, x ∈ p := by
  unfold isWithin
  rw [List.all_eq_true]
  exact ⟨fun h x hx => by simpa using h x hx, fun h x hx => by simpa using h x hx⟩
theorem through_ok {b : Bk} : ∀ (c : T2) {row : T1}, Row b row → (∀ p ∈ c, St b p) → (∀ p ∈ c, ∀ x ∈ row, x ∈ p) → (c.Pairwise fun p q => ∀ x ∈ p, x ∈ q) →
    ∃ l, throughGo b c row = some l ∧ Row b l ∧ (∃ t, l = row ++ t) ∧ ∀ p ∈ c, ∃ k, ∀ x, x ∈ l.take k ↔ x ∈ p
  | [], row, h, _, _, _ => by
    obtain ⟨h1, t, e⟩ := grow_row (b := b) (a := whole b) (n := (whole b).length) (whole_in b).2 ((whole b).length + 1) h
    exact ⟨_, rfl, h1, ⟨t, e⟩, fun p hp => nomatch hp⟩
  | p :: r, row, h, hs, hr, hi => by
    have hp := hs p List.mem_cons_self
    have hrp := hr p List.mem_cons_self
    obtain ⟨i1, i2⟩ := List.pairwise_cons.mp hi
    have gt := grown_to hp h hrp
    obtain ⟨g1, t, e⟩ := grow_row (b := b) (a := p) (n := p.length) hp.names (p.length + 1) h
    change Row b (grownM b row p p.length) at g1
    change grownM b row p p.length = row ++ t at e
    obtain ⟨l, l1, l2, ⟨t2, l3⟩, l4⟩ := through_ok r g1 (fun q hq => hs q (List.mem_cons_of_mem _ hq)) (fun q hq x hx => i1 q hq x ((gt x).mp hx)) i2
    refine ⟨l, ?_, l2, ⟨t ++ t2, by rw [l3, e, List.append_assoc]⟩, fun q hq => ?_⟩
    · unfold throughGo
      rw [if_pos (within_iff.mpr hrp)]
      exact l1
    · rcases List.mem_cons.mp hq with z | z
      · rw [z]
        refine ⟨(grownM b row p p.length).length, fun x => ?_⟩
        rw [l3, List.take_left]
        exact gt x
      · exact l4 q z

/-! ### chains -/
theorem chain_rel {lt : List (Nat × Nat)} {R : Nat → Nat → Prop} (rf : ∀ x, R x x) (tr : ∀ x y z, R x y → R y z → R x z) (h : ∀ x y, lookM lt x = some y → R x y) : ∀ (n x : Nat), (chainGo lt n x).Pairwise R ∧ ∀ y ∈ chainGo lt n x, R x y
  | 0, x => ⟨List.pairwise_singleton _ _, fun y hy => by rw [List.mem_singleton.mp hy]; exact rf x⟩
  | n + 1, x => by
    unfold chainGo
    cases q : lookM lt x with
    | none => exact ⟨List.pairwise_singleton _ _, fun y hy => by rw [List.mem_singleton.mp hy]; exact rf x⟩
    | some y =>
      obtain ⟨h1, h2⟩ := chain_rel rf tr h n y
      refine ⟨List.pairwise_cons.mpr ⟨fun z hz => tr x y z (h x y q) (h2 z hz), h1⟩, fun z hz => ?_⟩
      rcases List.mem_cons.mp hz with e | e
      · rw [e]; exact rf x
      · exact tr x y z (h x y q) (h2 z e)
theorem head_chain (lt : List (Nat × Nat)) (n x : Nat) : x ∈ chainGo lt n x := by
  cases n with
  | zero => exact List.mem_singleton.mpr rfl
  | succ n =>
    unfold chainGo
    cases lookM lt x with
    | none => exact List.mem_singleton.mpr rfl
    | some w => exact List.mem_cons_self
/-- with room to go on, whatever follows a member is a member -/
theorem chain_next {lt : List (Nat × Nat)} {L : Nat → Nat} (h : ∀ x y, lookM lt x = some y → L x < L y) (B : Nat) (hB : ∀ x, L x ≤ B) : ∀ (n x : Nat), B < n + L x → ∀ p q, p ∈ chainGo lt n x → lookM lt p = some q → q ∈ chainGo lt n x
  | 0, x, hn, p, q, hp, hq => by have := hB x; omega
  | n + 1, x, hn, p, q, hp, hq => by
    unfold chainGo at hp ⊢
    cases e : lookM lt x with
    | none =>
      rw [e] at hp
      have : p = x := List.mem_singleton.mp hp
      rw [this, e] at hq; cases hq
    | some y =>
      rw [e] at hp
      have hxy := h x y e
      rcases List.mem_cons.mp hp with z | z
      · rw [z, e] at hq
        cases hq
        exact List.mem_cons_of_mem _ (head_chain lt n _)
      · exact List.mem_cons_of_mem _ (chain_next h B hB n y (by omega) p q z hq)
theorem look_of_mem : ∀ {m : List (Nat × Nat)}, (m.map (·.1)).Nodup → ∀ p ∈ m, lookM m p.1 = some p.2
  | [], _, p, hp => nomatch hp
  | x :: m, nd, p, hp => by
    obtain ⟨n1, n2⟩ := List.nodup_cons.mp nd
    rw [lookM_cons]
    rcases List.mem_cons.mp hp with e | e
    · rw [e, if_pos rfl]
    · rw [if_neg (fun z => n1 (List.mem_map.mpr ⟨p, e, z.symm⟩))]
      exact look_of_mem n2 p e
section
variable {b : Bk} (F : Fine b)
include F
theorem paths_sst : ∀ t ∈ allPaths b, Sst ltS t := fun t ht => (mem_paths.mp ht).1.1
theorem match_inv : MInv (behindM (allPaths b)) (allPaths b).length (matchedM (behindM (allPaths b))) := by
  have few := F.few
  have lb : (behindM (allPaths b)).length = (allPaths b).length := by unfold behindM; rw [List.length_map]
  have R := matched_inv (aok_behind (allPaths b)) (by rw [lb]; exact few) (behindM (allPaths b)).length (Nat.le_refl _)
  change MInv (behindM (allPaths b)) (behindM (allPaths b)).length (matchedM (behindM (allPaths b))) at R
  rw [lb] at R
  exact R
theorem at_len (i : Nat) : ((allPaths b).getD i []).length ≤ 10 := by
  rw [List.getD_eq_getElem?_getD]
  cases q : (allPaths b)[i]? with
  | none => exact Nat.zero_le _
  | some t => exact Nat.le_trans (standK_len (mem_allPaths (List.mem_of_getElem? q))) F.sm.len
theorem later_lt (x y : Nat) (h : lookM (laterM (matchedM (behindM (allPaths b)))) x = some y) : ((allPaths b).getD x []).length < ((allPaths b).getD y []).length :=
  (edge_lt (paths_sst F) F.few (later_look h (match_inv F).inv.nd)).2.2
theorem later_sub (x y : Nat) (h : lookM (laterM (matchedM (behindM (allPaths b)))) x = some y) : ∀ z ∈ (allPaths b).getD x [], z ∈ (allPaths b).getD y [] := by
  have R := match_inv F
  have hl := later_look h R.inv.nd
  have hm := lookM_some hl
  have h2 := R.ed _ hm
  have e1 := (edge_lt (paths_sst F) F.few hl)
  have ep : (behindM (allPaths b)).getD x [] = behindRow (allPaths b) ((allPaths b).getD x []) := by
    unfold behindM
    rw [List.getD_eq_getElem?_getD, List.getElem?_map, List.getD_eq_getElem?_getD, List.getElem?_eq_getElem e1.2.1]; rfl
  simp only at h2
  rw [ep] at h2
  unfold behindRow at h2
  obtain ⟨w, hw, rfl⟩ := List.mem_map.mp h2
  obtain ⟨w1, w2⟩ := List.mem_filter.mp hw
  obtain ⟨m1, m2⟩ := mem_enumL w1
  have eo : (allPaths b).getD w.1 [] = w.2 := by rw [List.getD_eq_getElem?_getD, m2]; rfl
  unfold behindP at w2
  rw [Bool.and_eq_true] at w2
  rw [eo]
  exact within_iff.mp w2.2
/-- every path stands in a chain -/
theorem chain_cover : ∀ (k i : Nat), i < (allPaths b).length → ((allPaths b).getD i []).length ≤ k → ∃ x, startP (matchedM (behindM (allPaths b))) x = true ∧ x < (allPaths b).length ∧ i ∈ chainGo (laterM (matchedM (behindM (allPaths b)))) 40 x := by
  intro k
  have R := match_inv F
  induction k with
  | zero =>
    intro i hi hk
    cases q : lookM (matchedM (behindM (allPaths b))) i with
    | none => exact ⟨i, by unfold startP; rw [q]; rfl, hi, head_chain _ _ _⟩
    | some p =>
      have := (edge_lt (paths_sst F) F.few q).2.2
      omega
  | succ k ih =>
    intro i hi hk
    cases q : lookM (matchedM (behindM (allPaths b))) i with
    | none => exact ⟨i, by unfold startP; rw [q]; rfl, hi, head_chain _ _ _⟩
    | some p =>
      have e := edge_lt (paths_sst F) F.few q
      obtain ⟨x, x1, x2, x3⟩ := ih p e.2.1 (by omega)
      refine ⟨x, x1, x2, chain_next (later_lt F) 10 (at_len F) 40 x (by omega) p i x3 ?_⟩
      have hm := lookM_some q
      have nd : ((laterM (matchedM (behindM (allPaths b)))).map (·.1)).Nodup := by
        unfold laterM
        rw [List.map_map]
        exact R.vn
      exact look_of_mem nd (p, i) (List.mem_map.mpr ⟨(i, p), hm, rfl⟩)
/-- how many chains there are -/
theorem chain_count : (pathChains b).length + (matchedM (behindM (allPaths b))).length = (allPaths b).length := by
  have R := match_inv F
  unfold pathChains chainsOf chainsN
  rw [List.length_map, List.length_map]
  have lb : (behindM (allPaths b)).length = (allPaths b).length := by unfold behindM; rw [List.length_map]
  have e : ∀ (P : Nat → Bool) (l : List Nat), l.length = (l.filter P).length + (l.filter fun x => !P x).length := by
    intro P l
    induction l with
    | nil => rfl
    | cons x l ih =>
      by_cases z : P x = true
      · rw [List.filter_cons_of_pos z, List.filter_cons_of_neg (by simp [z]), List.length_cons, List.length_cons]; omega
      · rw [List.filter_cons_of_neg z, List.filter_cons_of_pos (by simpa using z), List.length_cons, List.length_cons]; omega
  have h1 := e (startP (matchedM (behindM (allPaths b)))) (List.range (allPaths b).length)
  rw [List.length_range] at h1
  have h2 : ((List.range (allPaths b).length).filter fun x => !startP (matchedM (behindM (allPaths b))) x).length = (matchedM (behindM (allPaths b))).length := by
    have key : ∀ x, startP (matchedM (behindM (allPaths b))) x = false ↔ x ∈ (matchedM (behindM (allPaths b))).map (·.1) := fun x => by
      unfold startP
      cases q : lookM (matchedM (behindM (allPaths b))) x with
      | none => exact ⟨fun h => (by cases h), fun h => absurd h (lookM_none.mp q)⟩
      | some p => exact ⟨fun _ => List.mem_map.mpr ⟨_, lookM_some q, rfl⟩, fun _ => rfl⟩
    have n1 : ((List.range (allPaths b).length).filter fun x => !startP (matchedM (behindM (allPaths b))) x).Nodup := List.Pairwise.filter _ List.nodup_range
    have a1 := lenLe n1 (m := (matchedM (behindM (allPaths b))).map (·.1)) fun x hx => (key x).mp (by simpa using (List.mem_filter.mp hx).2)
    have a2 := lenLe R.inv.nd (m := (List.range (allPaths b).length).filter fun x => !startP (matchedM (behindM (allPaths b))) x) fun x hx => by
      refine List.mem_filter.mpr ⟨?_, by simpa using (key x).mpr hx⟩
      obtain ⟨p, hp, rfl⟩ := List.mem_map.mp hx
      have := (R.inv.lt p hp).1
      rw [lb] at this
      exact List.mem_range.mpr this
    rw [List.length_map] at a1 a2
    exact Nat.le_antisymm a1 a2
  rw [h2] at h1
  exact h1.symm
/-- the lists -/
theorem told_lists : ∃ rolls : T2, fewestM b = rolls.map some ∧ rolls.length = (pathChains b).length ∧ (∀ l ∈ rolls, Row b l) ∧ ∀ p, Path b p → ∃ l ∈ rolls, ∃ k, ∀ x, x ∈ l.take k ↔ x ∈ p := by
  have each : ∀ c ∈ pathChains b, ∃ l, listThrough b c = some l ∧ Row b l ∧ ∀ p ∈ c, ∃ k, ∀ x, x ∈ l.take k ↔ x ∈ p := fun c hc => by
    unfold pathChains chainsOf at hc
    obtain ⟨ci, hci, rfl⟩ := List.mem_map.mp hc
    unfold chainsN at hci
    obtain ⟨x, hx, rfl⟩ := List.mem_map.mp hci
    have rel := chain_rel (lt := laterM (matchedM (behindM (allPaths b)))) (R := fun x y => ∀ z ∈ (allPaths b).getD x [], z ∈ (allPaths b).getD y []) (fun _ _ h => h) (fun _ _ _ h g z hz => g z (h z hz)) (later_sub F) 40 x
    have hSt : ∀ p ∈ pickPs (allPaths b) (chainGo (laterM (matchedM (behindM (allPaths b)))) 40 x), St b p := fun p hp => by
      unfold pickPs at hp
      obtain ⟨i, hi, rfl⟩ := List.mem_map.mp hp
      rw [List.getD_eq_getElem?_getD]
      cases q : (allPaths b)[i]? with
      | none => exact St.nil b
      | some t => exact (mem_paths.mp (List.mem_of_getElem? q)).1
    obtain ⟨l, l1, l2, _, l4⟩ := through_ok (b := b) (pickPs (allPaths b) (chainGo (laterM (matchedM (behindM (allPaths b)))) 40 x)) (row := []) .nil hSt (fun p hp x hx => nomatch hx) (by unfold pickPs; exact List.pairwise_map.mpr rel.1)
    exact ⟨l, l1, l2, l4⟩
  have build : ∀ cs : List T2, (∀ c ∈ cs, ∃ l, listThrough b c = some l ∧ Row b l ∧ ∀ p ∈ c, ∃ k, ∀ x, x ∈ l.take k ↔ x ∈ p) → ∃ rolls : T2, cs.map (listThrough b) = rolls.map some ∧ rolls.length = cs.length ∧ (∀ l ∈ rolls, Row b l) ∧ ∀ c ∈ cs, ∀ p ∈ c, ∃ l ∈ rolls, ∃ k, ∀ x, x ∈ l.take k ↔ x ∈ p := by
    intro cs
    induction cs with
    | nil => intro _; exact ⟨[], rfl, rfl, (fun l hl => nomatch hl), fun c hc => nomatch hc⟩
    | cons c cs ih =>
      intro h
      obtain ⟨l, l1, l2, l3⟩ := h c List.mem_cons_self
      obtain ⟨rolls, r1, r2, r3, r4⟩ := ih fun d hd => h d (List.mem_cons_of_mem _ hd)
      refine ⟨l :: rolls, by rw [List.map_cons, List.map_cons, l1, r1], by rw [List.length_cons, List.length_cons, r2], fun d hd => ?_, fun d hd p hp => ?_⟩
      · rcases List.mem_cons.mp hd with e | e
        · rw [e]; exact l2
        · exact r3 d e
      · rcases List.mem_cons.mp hd with e | e
        · obtain ⟨k, hk⟩ := l3 p (e ▸ hp)
          exact ⟨l, List.mem_cons_self, k, hk⟩
        · obtain ⟨d', hd', k, hk⟩ := r4 d e p hp
          exact ⟨d', List.mem_cons_of_mem _ hd', k, hk⟩
  obtain ⟨rolls, r1, r2, r3, r4⟩ := build (pathChains b) each
  refine ⟨rolls, r1, r2, r3, fun p hp => ?_⟩
  obtain ⟨i, hi, e⟩ := List.getElem_of_mem (mem_paths.mpr hp)
  obtain ⟨x, x1, x2, x3⟩ := chain_cover F _ i hi (Nat.le_refl _)
  refine r4 (pickPs (allPaths b) (chainGo (laterM (matchedM (behindM (allPaths b)))) 40 x)) (List.mem_map.mpr ⟨_, List.mem_map.mpr ⟨x, List.mem_filter.mpr ⟨List.mem_range.mpr x2, x1⟩, rfl⟩, rfl⟩) p ?_
  unfold pickPs
  refine List.mem_map.mpr ⟨i, x3, ?_⟩
  rw [List.getD_eq_getElem?_getD, List.getElem?_eq_getElem hi, ← e]; rfl
end

/-! ### what can be read -/
def heads (line : T1) : T2 := (List.range (line.length + 1)).map fun k => line.take k
def rStep (found : T2) (line : T1) : T2 := sset ltT ((found.map fun lot => (heads line).map fun own => setOf (lot ++ own)).flatten)
def readM (rolls : T2) : T2 := rolls.foldl rStep [[]]
/-- beginnings, one of each list, behind one another -/
inductive Cat : T2 → T1 → Prop
  | nil : Cat [] []
  | cons {rolls : T2} {w : T1} (line : T1) (k : Nat) : Cat rolls w → Cat (line :: rolls) (line.take k ++ w)
theorem mem_heads {line h : T1} : h ∈ heads line ↔ ∃ k, h = line.take k := by
  unfold heads
  rw [List.mem_map]
  constructor
  · rintro ⟨k, _, e⟩; exact ⟨k, e.symm⟩
  · rintro ⟨k, rfl⟩
    rcases Nat.lt_or_ge line.length k with z | z
    · exact ⟨line.length, List.mem_range.mpr (Nat.lt_succ_self _), by rw [List.take_length, List.take_of_length_le (by omega)]⟩
    · exact ⟨k, List.mem_range.mpr (by omega), rfl⟩
theorem mem_rStep {found : T2} {line t : T1} : t ∈ rStep found line ↔ ∃ lot ∈ found, ∃ k, t = setOf (lot ++ line.take k) := by
  unfold rStep
  rw [mem_sset, List.mem_flatten]
  constructor
  · rintro ⟨l, hl, ht⟩
    obtain ⟨lot, hlot, rfl⟩ := List.mem_map.mp hl
    obtain ⟨own, hown, rfl⟩ := List.mem_map.mp ht
    obtain ⟨k, rfl⟩ := mem_heads.mp hown
    exact ⟨lot, hlot, k, rfl⟩
  · rintro ⟨lot, hlot, k, rfl⟩
    exact ⟨_, List.mem_map.mpr ⟨lot, hlot, rfl⟩, List.mem_map.mpr ⟨_, mem_heads.mpr ⟨k, rfl⟩, rfl⟩⟩
theorem mem_fold : ∀ (rolls : T2) {F : T2} {t : T1}, (∀ s ∈ F, Sst ltS s) → (t ∈ rolls.foldl rStep F ↔ ∃ s ∈ F, ∃ w, Cat rolls w ∧ t = setOf (s ++ w))
  | [], F, t, hF => by
    constructor
    · intro h
      exact ⟨t, h, [], .nil, by rw [List.append_nil]; exact (sset_self ordS (hF t h)).symm⟩
    · rintro ⟨s, hs, w, hw, rfl⟩
      cases hw
      rw [List.append_nil]
      show setOf s ∈ F
      rw [show setOf s = s from sset_self ordS (hF s hs)]
      exact hs
  | line :: rolls, F, t, hF => by
    have h := mem_fold rolls (F := rStep F line) (t := t) fun s hs => by
      obtain ⟨lot, _, k, rfl⟩ := mem_rStep.mp hs
      exact sset_sst ordS _
    show t ∈ rolls.foldl rStep (rStep F line) ↔ _
    rw [h]
    have e : ∀ (lot w : T1) (k : Nat), setOf (setOf (lot ++ line.take k) ++ w) = setOf (lot ++ (line.take k ++ w)) := fun lot w k => sst_ext ordS (sset_sst ordS _) (sset_sst ordS _) fun x => by
      rw [mem_setOf, mem_setOf, List.mem_append, mem_setOf, List.mem_append, List.mem_append, List.mem_append]
      exact or_assoc
    constructor
    · rintro ⟨s, hs, w, hw, rfl⟩
      obtain ⟨lot, hlot, k, rfl⟩ := mem_rStep.mp hs
      exact ⟨lot, hlot, _, .cons line k hw, e lot w k⟩
    · rintro ⟨lot, hlot, w, hw, rfl⟩
      cases hw with
      | cons _ k hw => exact ⟨_, mem_rStep.mpr ⟨lot, hlot, k, rfl⟩, _, hw, (e lot _ k).symm⟩
theorem mem_read {rolls : T2} {t : T1} : t ∈ readM rolls ↔ ∃ w, Cat rolls w ∧ t = setOf w := by
  unfold readM
  rw [mem_fold rolls (fun s hs => by rw [List.mem_singleton.mp hs]; exact List.Pairwise.nil)]
  constructor
  · rintro ⟨s, hs, w, hw, e⟩
    rw [List.mem_singleton.mp hs, List.nil_append] at e
    exact ⟨w, hw, e⟩
  · rintro ⟨w, hw, e⟩
    exact ⟨[], List.mem_singleton.mpr rfl, w, hw, e⟩
theorem read_sst (rolls : T2) : Sst ltT (readM rolls) := by
  rcases List.eq_nil_or_concat rolls with rfl | ⟨r, l, rfl⟩
  · exact List.pairwise_singleton _ _
  · unfold readM
    rw [List.concat_eq_append, List.foldl_append]
    exact sset_sst ordT _

/-! ### the law's standings -/
def comeP (up : T1) (p : Str × T2) : Bool := !decide (p.1 ∈ up) && p.2.any fun n => n.all fun o => decide (o ∈ up)
def comeM (b : Bk) (up : T1) : T1 := (b.filter (comeP up)).map (·.1)
def lStep (here : T1) (st : T2 × T2) (u : Str) : T2 × T2 := if isort ltS (here ++ [u]) ∈ st.1 then st else (st.1 ++ [isort ltS (here ++ [u])], st.2 ++ [isort ltS (here ++ [u])])
def lLoop (b : Bk) : Nat → T2 × T2 → T2
  | 0, st => st.1
  | n + 1, st => match st.2.getLast? with
    | none => st.1
    | some here => lLoop b n ((comeM b here).foldl (lStep here) (st.1, st.2.dropLast))
def standsM (b : Bk) : T2 := isort ltT (lLoop b (2 ^ b.length) ([[]], [[]]))
theorem needs_at {b : Bk} (nd : (b.map (·.1)).Nodup) {p : Str × T2} (hp : p ∈ b) : needsOf b p.1 = p.2 := by
  obtain ⟨q, e, hq, eq⟩ := needs_find (List.mem_map.mpr ⟨p, hp, rfl⟩ : p.1 ∈ names b)
  unfold needsOf
  rw [e]
  show q.2 = p.2
  have : ∀ {b : Bk}, (b.map (·.1)).Nodup → ∀ p ∈ b, ∀ q ∈ b, q.1 = p.1 → q = p := by
    intro b
    induction b with
    | nil => intro _ p hp; cases hp
    | cons x b ih =>
      intro nd p hp q hq e
      obtain ⟨n1, n2⟩ := List.nodup_cons.mp nd
      rcases List.mem_cons.mp hp with h1 | h1
      · rcases List.mem_cons.mp hq with h2 | h2
        · rw [h1, h2]
        · exact absurd (List.mem_map.mpr ⟨q, h2, by rw [e, h1]⟩) n1
      · rcases List.mem_cons.mp hq with h2 | h2
        · exact absurd (List.mem_map.mpr ⟨p, h1, by rw [← e, h2]⟩) n1
        · exact ih n2 p h1 q h2 e
  rw [this nd p hp q hq eq]
theorem come_eq {b : Bk} (nd : (b.map (·.1)).Nodup) (up : T1) : comeM b up = (names b).filter (lets b up) := by
  unfold comeM names
  rw [List.filter_map]
  congr 1
  refine List.filter_congr fun p hp => ?_
  show comeP up p = lets b up p.1
  unfold comeP lets
  rw [needs_at nd hp]
theorem lstep_eq {b : Bk} {here : T1} (hs : Sst ltS here) {st : SSt} {u : Str} (hl : lets b here u = true) : ((sStep b here st u).1.map (·.1), (sStep b here st u).2) = lStep here (st.1.map (·.1), st.2) u := by
  have e : isort ltS (here ++ [u]) = setOf (here ++ [u]) := by
    unfold setOf sset
    rw [dedup_self (nodup_snoc (hs.nodup ordS) (lets_out hl))]
  unfold sStep lStep
  rw [if_pos hl, e]
  by_cases h : setOf (here ++ [u]) ∈ st.1.map (·.1)
  · rw [if_pos h, if_pos h]
  · rw [if_neg h, if_neg h, List.map_append]; rfl
theorem lfold_eq {b : Bk} {here : T1} (hs : Sst ltS here) : ∀ (l : T1) (st : SSt), ((l.foldl (sStep b here) st).1.map (·.1), (l.foldl (sStep b here) st).2) = (l.filter (lets b here)).foldl (lStep here) (st.1.map (·.1), st.2)
  | [], _ => rfl
  | u :: l, st => by
    by_cases h : lets b here u = true
    · rw [List.filter_cons_of_pos h, List.foldl_cons, List.foldl_cons, lfold_eq hs l, lstep_eq hs h]
    · rw [List.filter_cons_of_neg h, List.foldl_cons, lfold_eq hs l]
      have : sStep b here st u = st := by unfold sStep; rw [if_neg h]
      rw [this]
theorem lloop_eq {b : Bk} (nd : (b.map (·.1)).Nodup) : ∀ (n : Nat) (st : SSt), SInv b st → (sLoop b n st).map (·.1) = lLoop b n (st.1.map (·.1), st.2)
  | 0, _, _ => rfl
  | n + 1, (f, fr), I => by
    rcases List.eq_nil_or_concat fr with rfl | ⟨fr0, here, rfl⟩
    · rfl
    · simp only [List.concat_eq_append] at I ⊢
      have hh : here ∈ f.map (·.1) := I.fr here (List.mem_append_right _ (List.mem_singleton.mpr rfl))
      have I0 : SInv b (f, fr0) := ⟨I.nd, I.srt, I.len, fun t ht => I.fr t (List.mem_append_left _ ht)⟩
      obtain ⟨p, hp, ep⟩ := List.mem_map.mp hh
      have hs : Sst ltS here := by rw [← ep]; exact (I.srt p hp).1
      have key : ∀ (l : T1) (st : SSt), (∀ u ∈ l, u ∈ names b) → SInv b st → here ∈ st.1.map (·.1) → SInv b (l.foldl (sStep b here) st) := by
        intro l
        induction l with
        | nil => intro st _ I _; exact I
        | cons u l ih =>
          intro st hl I hh
          obtain ⟨i1, i2, _⟩ := I.step hh (hl u List.mem_cons_self)
          exact ih _ (fun v hv => hl v (List.mem_cons_of_mem _ hv)) i1 i2
      unfold sLoop lLoop
      simp only [List.getLast?_concat, List.dropLast_concat]
      rw [come_eq nd, ← lfold_eq hs (names b) (f, fr0)]
      exact lloop_eq nd n _ (key _ _ (fun _ h => h) I0 hh)
theorem stands_eq {b : Bk} (nd : (b.map (·.1)).Nodup) : standsM b = isort ltT (standK b) := by
  unfold standsM standK standM
  rw [lloop_eq nd]
  · rfl
  · refine ⟨List.nodup_cons.mpr ⟨List.not_mem_nil, List.nodup_nil⟩, fun p hp => ?_, fun p hp => ?_, fun t ht => ht⟩
    · rw [List.mem_singleton.mp hp]; exact ⟨List.Pairwise.nil, fun x hx => nomatch hx⟩
    · rw [List.mem_singleton.mp hp]; exact Nat.le_refl _
theorem stands_sst {b : Bk} (nd : (b.map (·.1)).Nodup) : Sst ltT (standsM b) := by
  rw [stands_eq nd]
  exact isort_sst ordT (stand_inv b).nd
theorem mem_stands {b : Bk} (nd : (b.map (·.1)).Nodup) {t : T1} : t ∈ standsM b ↔ St b t := by
  rw [stands_eq nd, mem_isort, mem_standK]

/-! ### the two halves -/
theorem cat_row {b : Bk} : ∀ {rolls : T2} {w : T1}, Cat rolls w → (∀ l ∈ rolls, Row b l) → ∃ r, Row b r ∧ ∀ x, x ∈ r ↔ x ∈ w
  | _, _, .nil, _ => ⟨[], .nil, fun _ => Iff.rfl⟩
  | _, _, .cons line k hw, h => by
    obtain ⟨r, hr, hm⟩ := cat_row hw fun l hl => h l (List.mem_cons_of_mem _ hl)
    obtain ⟨w, hw, hx⟩ := ((h line List.mem_cons_self).take k).union hr
    exact ⟨w, hw, fun x => by rw [hx, List.mem_append, hm]⟩
/-- the longest beginnings within s -/
theorem cat_within (s : T1) : ∀ rolls : T2, ∃ w, Cat rolls w ∧ (∀ x ∈ w, x ∈ s) ∧ ∀ l ∈ rolls, ∀ k, (∀ x ∈ l.take k, x ∈ s) → ∀ x ∈ l.take k, x ∈ w
  | [] => ⟨[], .nil, fun x hx => (nomatch hx), fun l hl => (nomatch hl)⟩
  | line :: rolls => by
    obtain ⟨w, hw, h1, h2⟩ := cat_within s rolls
    have pre : ∀ l : T1, ∃ k, (∀ x ∈ l.take k, x ∈ s) ∧ ∀ j, (∀ x ∈ l.take j, x ∈ s) → ∀ x ∈ l.take j, x ∈ l.take k := by
      intro l
      induction l with
      | nil => exact ⟨0, fun x hx => (by cases hx), fun j _ x hx => (by rw [List.take_nil] at hx; cases hx)⟩
      | cons a l ih =>
        by_cases z : a ∈ s
        · obtain ⟨k, k1, k2⟩ := ih
          refine ⟨k + 1, fun x hx => ?_, fun j hj x hx => ?_⟩
          · rw [List.take_succ_cons] at hx
            rcases List.mem_cons.mp hx with e | e
            · rw [e]; exact z
            · exact k1 x e
          · cases j with
            | zero => cases hx
            | succ j =>
              rw [List.take_succ_cons] at hx hj ⊢
              rcases List.mem_cons.mp hx with e | e
              · rw [e]; exact List.mem_cons_self
              · exact List.mem_cons_of_mem _ (k2 j (fun y hy => hj y (List.mem_cons_of_mem _ hy)) x e)
        · refine ⟨0, fun x hx => (by cases hx), fun j hj x hx => ?_⟩
          cases j with
          | zero => cases hx
          | succ j =>
            rw [List.take_succ_cons] at hj
            exact absurd (hj a List.mem_cons_self) z
    obtain ⟨k, k1, k2⟩ := pre line
    refine ⟨line.take k ++ w, .cons line k hw, fun x hx => ?_, fun l hl j hj x hx => ?_⟩
    · rcases List.mem_append.mp hx with e | e
      · exact k1 x e
      · exact h1 x e
    · rcases List.mem_cons.mp hl with e | e
      · rw [e] at hj hx; exact List.mem_append_left _ (k2 j hj x hx)
      · exact List.mem_append_right _ (h2 l e j hj x hx)
/-- lists of rows that hold every path read as the standings -/
theorem read_all {b : Bk} (nd : (b.map (·.1)).Nodup) {rolls : T2} (hr : ∀ l ∈ rolls, Row b l) (hp : ∀ p, Path b p → ∃ l ∈ rolls, ∃ k, ∀ x, x ∈ l.take k ↔ x ∈ p) : readM rolls = standsM b := by
  refine sst_ext ordT (read_sst rolls) (stands_sst nd) fun t => ?_
  rw [mem_read, mem_stands nd]
  constructor
  · rintro ⟨w, hw, rfl⟩
    obtain ⟨r, hr', hm⟩ := cat_row hw hr
    exact ⟨sset_sst ordS w, r, hr', fun x => by rw [hm]; exact mem_setOf⟩
  · intro h
    obtain ⟨w, hw, h1, h2⟩ := cat_within t rolls
    refine ⟨w, hw, sst_ext ordS h.1 (sset_sst ordS w) fun x => ⟨fun hx => ?_, fun hx => h1 x (mem_setOf.mp hx)⟩⟩
    obtain ⟨p, pp, ps, px⟩ := h.covered t.length (Nat.le_refl _) x hx
    obtain ⟨l, hl, k, hk⟩ := hp p pp
    exact mem_setOf.mpr (h2 l hl k (fun y hy => ps y ((hk y).mp hy)) x ((hk x).mpr px))
theorem cat_one {rolls : T2} : ∀ {w : T1}, Cat rolls w → ∀ x ∈ w, ∃ i, ∃ h : i < rolls.length, ∃ k, x ∈ (rolls[i]).take k ∧ (∀ y ∈ (rolls[i]).take k, y ∈ w) := by
  induction rolls with
  | nil => intro w hw x hx; cases hw; cases hx
  | cons line rolls ih =>
    intro w hw x hx
    cases hw with
    | cons _ k hw =>
      rcases List.mem_append.mp hx with e | e
      · exact ⟨0, Nat.zero_lt_succ _, k, e, fun y hy => List.mem_append_left _ hy⟩
      · obtain ⟨i, hi, j, h1, h2⟩ := ih hw x e
        exact ⟨i + 1, Nat.succ_lt_succ hi, j, h1, fun y hy => List.mem_append_right _ (h2 y hy)⟩
theorem cat_zero : ∀ rolls : T2, Cat rolls []
  | [] => .nil
  | l :: rolls => by
    have := Cat.cons l 0 (cat_zero rolls)
    rwa [List.take_zero, List.nil_append] at this
theorem cat_at : ∀ {rolls : T2} {i : Nat} (h : i < rolls.length) (k : Nat), Cat rolls ((rolls[i]).take k)
  | line :: rolls, 0, _, k => by
    have := Cat.cons line k (cat_zero rolls)
    rwa [List.append_nil] at this
  | line :: rolls, i + 1, h, k => by
    have := Cat.cons line 0 (cat_at (rolls := rolls) (i := i) (Nat.lt_of_succ_lt_succ h) k)
    rwa [List.take_zero, List.nil_append] at this
/-- no fewer lists do -/
theorem no_fewer {b : Bk} (F : Fine b) {rolls : T2} (h : readM rolls = standsM b) : (pathChains b).length ≤ rolls.length := by
  have nd := F.sm.nd
  have few := F.few
  have lb : (behindM (allPaths b)).length = (allPaths b).length := by unfold behindM; rw [List.length_map]
  obtain ⟨X, xn, xl, xa, xc⟩ := antichain (aok_behind (allPaths b)) (by rw [lb]; exact few)
  have cc := chain_count F
  rw [lb] at xc xl
  -- each path is a beginning of one of the lists
  have one : ∀ p, Path b p → ∃ i, i < rolls.length ∧ ∃ k, ∀ x, x ∈ ((rolls.getD i []).take k) ↔ x ∈ p := fun p hp => by
    obtain ⟨u, hu, irr⟩ := hp.irr
    have hm : p ∈ readM rolls := by rw [h]; exact (mem_stands nd).mpr hp.1
    obtain ⟨w, hw, e⟩ := mem_read.mp hm
    have hw' : ∀ x, x ∈ w ↔ x ∈ p := fun x => by rw [e]; exact mem_setOf.symm
    obtain ⟨i, hi, k, h1, h2⟩ := cat_one hw u ((hw' u).mpr hu)
    have hs : St b (setOf ((rolls[i]).take k)) := (mem_stands nd).mp (by rw [← h]; exact mem_read.mpr ⟨_, cat_at hi k, rfl⟩)
    have eq := irr _ hs (fun x hx => (hw' x).mp (h2 x (mem_setOf.mp hx))) (mem_setOf.mpr h1)
    refine ⟨i, hi, k, fun x => ?_⟩
    rw [List.getD_eq_getElem?_getD, List.getElem?_eq_getElem hi]
    show x ∈ (rolls[i]).take k ↔ x ∈ p
    rw [← eq]; exact mem_setOf.symm
  have pth : ∀ x, x < (allPaths b).length → Path b ((allPaths b).getD x []) := fun x hx => by
    refine mem_paths.mp ?_
    rw [List.getD_eq_getElem?_getD, List.getElem?_eq_getElem hx]; exact List.getElem_mem hx
  -- of two on one list one is within the other
  have cmp : ∀ x, x ∈ X → ∀ y, y ∈ X → ∀ (l : T1) (j k : Nat), (∀ z, z ∈ l.take j ↔ z ∈ (allPaths b).getD x []) → (∀ z, z ∈ l.take k ↔ z ∈ (allPaths b).getD y []) → j ≤ k → x = y := fun x hx y hy l j k hj hk hjk => Classical.byContradiction fun ne => by
    have hxl := xl x hx
    have hyl := xl y hy
    have sub : ∀ z ∈ (allPaths b).getD x [], z ∈ (allPaths b).getD y [] := fun z hz => by
      rw [← hk]
      have : l.take j = (l.take k).take j := by rw [List.take_take, Nat.min_eq_left hjk]
      have h1 := (hj z).mpr hz
      rw [this] at h1
      exact List.mem_of_mem_take h1
    have nep : ¬ (allPaths b).getD y [] = (allPaths b).getD x [] := fun e => ne (by
      have hnd : (allPaths b).Nodup := by
        have h1 : (isort ltT (standK b)).Nodup := (isort_perm _).nodup_iff.mpr (stand_inv b).nd
        have : ∀ {l : T2}, l.Nodup → ((l.filterMap (endsOf (standK b))).map (·.1)).Nodup := by
          intro l
          induction l with
          | nil => intro _; exact List.nodup_nil
          | cons a l ih =>
            intro nd
            obtain ⟨n1, n2⟩ := List.nodup_cons.mp nd
            have key : ∀ p, endsOf (standK b) a = some p → p.1 = a := fun p hp => by
              unfold endsOf at hp
              split at hp
              · cases hp; rfl
              · cases hp
            cases q : endsOf (standK b) a with
            | none => rw [List.filterMap_cons_none q]; exact ih n2
            | some p =>
              rw [List.filterMap_cons_some q, List.map_cons]
              refine List.nodup_cons.mpr ⟨fun z => ?_, ih n2⟩
              obtain ⟨p2, hp2, e2⟩ := List.mem_map.mp z
              obtain ⟨a2, ha2, q2⟩ := List.mem_filterMap.mp hp2
              unfold endsOf at q2
              split at q2
              · cases q2
                rw [key p q] at e2
                simp only at e2
                rw [e2] at ha2
                exact n1 ha2
              · cases q2
        exact this h1
      rw [List.getD_eq_getElem?_getD, List.getD_eq_getElem?_getD, List.getElem?_eq_getElem hxl, List.getElem?_eq_getElem hyl] at e
      exact ((List.getElem_inj hnd).mp e).symm)
    refine xa x hx y hy ?_
    have ep : (behindM (allPaths b)).getD x [] = behindRow (allPaths b) ((allPaths b).getD x []) := by
      unfold behindM
      rw [List.getD_eq_getElem?_getD, List.getElem?_map, List.getD_eq_getElem?_getD, List.getElem?_eq_getElem hxl]; rfl
    rw [ep]
    unfold behindRow
    refine List.mem_map.mpr ⟨(y, (allPaths b).getD y []), List.mem_filter.mpr ⟨?_, ?_⟩, rfl⟩
    · unfold enumL
      exact List.mem_map.mpr ⟨y, List.mem_range.mpr hyl, rfl⟩
    · unfold behindP
      rw [Bool.and_eq_true, Bool.not_eq_true', decide_eq_false_iff_not]
      exact ⟨nep, within_iff.mpr sub⟩
  -- so each of them has a list of its own
  let g : Nat → Nat := fun x => if hx : x < (allPaths b).length then (one _ (pth x hx)).choose else 0
  have gl : ∀ x, x ∈ X → g x < rolls.length ∧ ∃ k, ∀ z, z ∈ ((rolls.getD (g x) []).take k) ↔ z ∈ (allPaths b).getD x [] := fun x hx => by
    have e : g x = (one _ (pth x (xl x hx))).choose := dif_pos (xl x hx)
    rw [e]
    exact (one _ (pth x (xl x hx))).choose_spec
  have inj : ∀ x, x ∈ X → ∀ y, y ∈ X → g x = g y → x = y := fun x hx y hy e => by
    obtain ⟨_, j, hj⟩ := gl x hx
    obtain ⟨_, k, hk⟩ := gl y hy
    rw [e] at hj
    rcases Nat.le_total j k with z | z
    · exact cmp x hx y hy _ j k hj hk z
    · exact (cmp y hy x hx _ k j hk hj z).symm
  have gn : (X.map g).Nodup := by
    have key : ∀ {l : List Nat}, l.Nodup → (∀ o ∈ l, o ∈ X) → (l.map g).Nodup := by
      intro l
      induction l with
      | nil => intro _ _; exact List.nodup_nil
      | cons x l ih =>
        intro nd hs
        obtain ⟨n1, n2⟩ := List.nodup_cons.mp nd
        rw [List.map_cons]
        refine List.nodup_cons.mpr ⟨fun h => ?_, ih n2 fun o ho => hs o (List.mem_cons_of_mem _ ho)⟩
        obtain ⟨y, hy, e⟩ := List.mem_map.mp h
        exact n1 (inj y (hs y (List.mem_cons_of_mem _ hy)) x (hs x List.mem_cons_self) e ▸ hy)
    exact key xn fun _ h => h
  have := lenLe gn (m := List.range rolls.length) fun i hi => by
    obtain ⟨x, hx, rfl⟩ := List.mem_map.mp hi
    exact List.mem_range.mpr (gl x hx).1
  rw [List.length_map, List.length_range] at this
  omega
end Up

/-! text Up12 -/
set_option Elab.async false
set_option linter.all false
set_option maxRecDepth 100000
set_option maxHeartbeats 4000000
/-! the law's own defs: come, inside, lower, lines -/
namespace Up
open PySem PySem.Spec PyProof.Rows L2 UpS
theorem depthAll_strs : ∀ xs : T1, PyData.depthAll (xs.map PyData.str) ≤ 0
  | [] => by simp [PyData.depthAll]
  | x :: xs => by
    have h1 := depthAll_strs xs
    show PyData.depthAll (.str x :: xs.map PyData.str) ≤ 0
    rw [PyData.depthAll, PyData.depth]
    omega
theorem depth_lS (xs : T1) : (PyData.list (xs.map PyData.str)).depth ≤ 64 := by
  have := depthAll_strs xs
  rw [PyData.depth]
  omega
theorem okS_filter {xs : T1} {p : Str → Bool} (h : okS xs = true) : okS (xs.filter p) = true := by
  unfold okS at h ⊢
  exact List.all_eq_true.mpr fun x hx => List.all_eq_true.mp h x (List.mem_filter.mp hx).1
theorem okT_filter {xs : T2} {p : T1 → Bool} (h : okT xs = true) : okT (xs.filter p) = true := by
  unfold okT at h ⊢
  exact List.all_eq_true.mpr fun x hx => List.all_eq_true.mp h x (List.mem_filter.mp hx).1
section
variable {K : PySem.W.Frag} {σ : L2.St} {G H : Hp} {te : TE}
theorem gd_eqNilS {xs : T1} (h : GL te σ G (xs.map .str)) (ok : okS xs = true) : GD (tOp (rEqD K) te (tLst tNil)) σ G (.bl xs.isEmpty) := by
  have := gd_op h.gd (gd_lst ga_nil (Nat.zero_le _)) (ro_eqNil (K := K) (flat_strs ok) (by rw [pds_strs]; exact depth_lS xs))
  rwa [List.isEmpty_map] at this
theorem gd_neNilS {xs : T1} (h : GL te σ G (xs.map .str)) (ok : okS xs = true) : GD (tOp (rNeD K) te (tLst tNil)) σ G (.bl (!xs.isEmpty)) := by
  have := gd_op h.gd (gd_lst ga_nil (Nat.zero_le _)) (ro_neNil (K := K) (flat_strs ok) (by rw [pds_strs]; exact depth_lS xs))
  rwa [List.isEmpty_map] at this
theorem gd_eqNilT {xs : T2} (h : GD te σ G (.lst (xs.map tS))) (ok : okT xs = true) : GD (tOp (rEqD K) te (tLst tNil)) σ G (.bl xs.isEmpty) := by
  have := gd_op h (gd_lst ga_nil (Nat.zero_le _)) (ro_eqNil (K := K) (flat_tSs ok) (by rw [pds_tSs]; exact depth_lT xs))
  rwa [List.isEmpty_map] at this
theorem gd_neNilT {xs : T2} (h : GD te σ G (.lst (xs.map tS))) (ok : okT xs = true) : GD (tOp (rNeD K) te (tLst tNil)) σ G (.bl (!xs.isEmpty)) := by
  have := gd_op h (gd_lst ga_nil (Nat.zero_le _)) (ro_neNil (K := K) (flat_tSs ok) (by rw [pds_tSs]; exact depth_lT xs))
  rwa [List.isEmpty_map] at this
end
theorem isEmpty_filter {α : Type} (p : α → Bool) : ∀ l : List α, (l.filter p).isEmpty = !l.any p
  | [] => rfl
  | a :: l => by
    cases h : p a with
    | true => rw [List.filter_cons_of_pos h, List.any_cons, h]; rfl
    | false => rw [List.filter_cons_of_neg (by simp [h]), List.any_cons, h, isEmpty_filter p l]; rfl
theorem any_not {α : Type} (p : α → Bool) : ∀ l : List α, (!l.any fun x => !p x) = l.all p
  | [] => rfl
  | a :: l => by rw [List.any_cons, List.all_cons, Bool.not_or, Bool.not_not, any_not p l]
def okB (b : Bk) : Bool := b.all fun p => PyData.strOk p.1 && okT p.2
theorem okB_names {b : Bk} (h : okB b = true) : okS (names b) = true := by
  unfold okB at h
  unfold okS names
  rw [List.all_map]
  exact List.all_eq_true.mpr fun p hp => (Bool.and_eq_true_iff.mp (List.all_eq_true.mp h p hp)).1
theorem okB_at {b : Bk} (h : okB b = true) {p : Str × T2} (hp : p ∈ b) : okT p.2 = true := (Bool.and_eq_true_iff.mp (List.all_eq_true.mp h p hp)).2
section
variable {P : Program} {w : World} {K : PySem.W.Frag} {mg : Str → Option Value} {base : Heap}
def fCome : List D → D → Prop := fun ds d => ∃ b up, ds = [bkT b, tS up] ∧ Sm b ∧ okB b = true ∧ d = lS (comeM b up)
theorem ok_Lcome (M : Mo mg) (h : Df K mg "_law_come" s_Lcome p_Lcome) : At P w K mg base "_law_come" s_Lcome p_Lcome 1 (spD 2 fCome) := by
  obtain ⟨f, fd, F, b, g⟩ := h
  refine ⟨f, fd, F, b, g, F.ok c_Lcome (fun vs H Q E h => h.1) (fun cdv A outer s H vs Q E hr h => ?_)⟩
  obtain ⟨_, ds, d, G, e, r, ⟨bk, up, rfl, S, ok, rfl⟩, q⟩ := h
  obtain ⟨v0, v1, rfl, r0, r1⟩ := r.i2
  refine ⟨_, (pss_one
    (ps_ret (pe_lc (own := [("_law_own", 2), ("_law_wants", 3)]) rfl c_Lcome.nd (k_seq K (pv 0)) (blkOk_by (by kernel_rfl)) (fun _ _ _ _ _ => (k_pair K (pgs_cons (pg_name (i := 2) c_Lcome.nd rfl (by first | exact .inl rfl | exact .inr rfl)) (pgs_cons (pg_name (i := 3) c_Lcome.nd rfl (by first | exact .inl rfl | exact .inr rfl)) pgs_nil)))) (fun _ _ _ _ _ => (pts_one (PW.pt (pw_and (pt_cmpR (k_notIn K) (pv 2) (pv 1) (by rfl)) (pw_and1 (pt_cmpR (k_neD K hr.units) (pe_lc (own := [("_law_far", 4)]) rfl c_Lcome.nd (k_seq K (pv 3)) (blkOk_by (by kernel_rfl)) (fun _ _ _ _ _ => (pg_name (i := 4) c_Lcome.nd rfl (by first | exact .inl rfl | exact .inr rfl))) (fun _ _ _ _ _ => (pts_one (pt_cmpR (k_eqD K hr.units) (pe_lc (own := [("_law_k", 5)]) rfl c_Lcome.nd (k_seq K (pv 4)) (blkOk_by (by kernel_rfl)) (fun _ _ _ _ _ => (pg_name (i := 5) c_Lcome.nd rfl (by first | exact .inl rfl | exact .inr rfl))) (fun _ _ _ _ _ => (pts_one (pt_cmpR (k_notIn K) (pv 5) (pv 1) (by rfl)))) (fun _ _ _ _ _ => (pv 5))) (pe_lst pa_nil) (nomark _)))) (fun _ _ _ _ _ => (pv 4))) (pe_lst pa_nil) (nomark _))))))) (fun _ _ _ _ _ => (pv 2))))), ?_⟩
  have len := S.len
  refine gd_is (GL.gd (gl_lc (xs := bk) (e := bkItem false) (p := comeP up) (f := fun p => D.str p.1) (gi_seqF (gd_var (i := 0) rfl r0)) (by omega)
    fun p hp G' H' v e1 e2 rp Q q => tg_Bk (l := false) rp e2 fun a c ra rc => q _ rfl (gt_is (gt_and (gt_B (gd_inT1 (neg := true) (gd_var (i := 2) rfl ra) (gd_var (i := 1) rfl (r1.mono e1)) (.inl rfl))) fun _ => gt_B (gd_neNilT (GL.gd (gl_lc1 (j := 4) (xs := p.2) (e := tS) (p := fun n => n.all fun o => decide (o ∈ up)) (f := tS) (gi_seqT (gd_var (i := 3) rfl (show Rp _ (tT p.2) _ from rc))) (by have := S.nl p hp; omega) (fun _ => rfl)
      (fun n hn G2 v2 e3 rn => gt_is (gt_B (gd_eqNilS (xs := n.filter fun o => !decide (o ∈ up)) (gl_lc1 (j := 5) (xs := n) (e := .str) (f := .str) (gi_seqT (gd_var (i := 4) rfl rn)) (by have := S.ll p hp n hn; omega) (fun _ => rfl)
        (fun o ho G3 v3 e4 ro => gt_B (gd_inT1 (neg := true) (gd_var (i := 5) rfl ro) (gd_var (i := 1) rfl (r1.mono (e1.trans (e3.trans e4)))) (.inl rfl)))
        (fun o ho _ G3 v3 e4 ro => gd_var (i := 5) rfl ro)) (okS_filter (okT_mem (okB_at ok hp) hn)))) (by rw [isEmpty_filter]; exact any_not _ _))
      (fun n hn _ G2 v2 e3 rn => gd_var (i := 4) rfl rn))) (okT_filter (okB_at ok hp)))) ?_) fun _ => gd_var (i := 2) rfl ra)) ?_ H e Q q
  · rw [isEmpty_filter, Bool.not_not]; rfl
  · unfold lS comeM
    rw [List.map_map]; rfl
def fInside : List D → D → Prop := fun ds d => ∃ a b, ds = [tS a, tS b] ∧ okS a = true ∧ a.length ≤ 1000 ∧ d = .bl (isWithin a b)
theorem ok_Linside (M : Mo mg) (h : Df K mg "_law_inside" s_Linside p_Linside) : At P w K mg base "_law_inside" s_Linside p_Linside 1 (spD 2 fInside) := by
  obtain ⟨f, fd, F, b, g⟩ := h
  refine ⟨f, fd, F, b, g, F.ok c_Linside (fun vs H Q E h => h.1) (fun cdv A outer s H vs Q E hr h => ?_)⟩
  obtain ⟨_, ds, d, G, e, r, ⟨x, y, rfl, ok, hl, rfl⟩, q⟩ := h
  obtain ⟨v0, v1, rfl, r0, r1⟩ := r.i2
  refine ⟨_, (pss_one
    (ps_ret (pe_cmpR (k_eqD K hr.units) (pe_lc (own := [("_law_own", 2)]) rfl c_Linside.nd (k_seq K (pv 0)) (blkOk_by (by kernel_rfl)) (fun _ _ _ _ _ => (pg_name (i := 2) c_Linside.nd rfl (by first | exact .inl rfl | exact .inr rfl))) (fun _ _ _ _ _ => (pts_one (pt_cmpR (k_notIn K) (pv 2) (pv 1) (by rfl)))) (fun _ _ _ _ _ => (pv 2))) (pe_lst pa_nil) (nomark _)))), ?_⟩
  refine gd_is (gd_eqNilS (xs := x.filter fun o => !decide (o ∈ y)) (gl_lc1 (j := 2) (xs := x) (e := .str) (f := .str) (gi_seqT (gd_var (i := 0) rfl r0)) (by omega) (fun _ => rfl)
        (fun o ho G3 v3 e4 ro => gt_B (gd_inT1 (neg := true) (gd_var (i := 2) rfl ro) (gd_var (i := 1) rfl (r1.mono e4)) (.inl rfl)))
        (fun o ho _ G3 v3 e4 ro => gd_var (i := 2) rfl ro)) (okS_filter ok)) ?_ H e Q q
  rw [isEmpty_filter, any_not]; rfl
def lowerM (ts : T2) : T2 := isort ltT (ts.filter fun l => (ts.filter fun f => !decide (f = l) && isWithin f l).isEmpty)
def fLower : List D → D → Prop := fun ds d => ∃ ts, ds = [.lst (ts.map tS)] ∧ okT ts = true ∧ ts.length ≤ 1000 ∧ (∀ t ∈ ts, t.length ≤ 1000) ∧ d = tT (lowerM ts)
theorem ok_Llower (M : Mo mg) (h : Df K mg "_law_lower" s_Llower p_Llower) (hI : At P w K mg base "_law_inside" s_Linside p_Linside 1 (spD 2 fInside)) : At P w K mg base "_law_lower" s_Llower p_Llower 2 (spD 1 fLower) := by
  obtain ⟨f_Linside, fd_Linside, F_Linside, b_Linside, g_Linside, G_Linside⟩ := hI
  obtain ⟨f, fd, F, b, g⟩ := h
  refine ⟨f, fd, F, b, g, F.ok c_Llower (fun vs H Q E h => h.1) (fun cdv A outer s H vs Q E hr h => ?_)⟩
  obtain ⟨_, ds, d, G, e, r, ⟨ts, rfl, ok, hl, hl2, rfl⟩, q⟩ := h
  obtain ⟨v0, rfl, r0⟩ := r.i1
  refine ⟨_, (pss_one
    (ps_ret (pe_callTy (k_tuple K) (by rfl) M.tuple_ PyProof.Rows.boot_tuple (pa_cons (pe_callB (k_sorted K w hr.units) (by rfl) M.sorted_ PyProof.Rows.boot_sorted (pa_cons (pe_lc (own := [("_law_lot", 1)]) rfl c_Llower.nd (k_seq K (pv 0)) (blkOk_by (by kernel_rfl)) (fun _ _ _ _ _ => (pg_name (i := 1) c_Llower.nd rfl (by first | exact .inl rfl | exact .inr rfl))) (fun _ _ _ _ _ => (pts_one (pt_cmpR (k_eqD K hr.units) (pe_lc (own := [("_law_far", 2)]) rfl c_Llower.nd (k_seq K (pv 0)) (blkOk_by (by kernel_rfl)) (fun _ _ _ _ _ => (pg_name (i := 2) c_Llower.nd rfl (by first | exact .inl rfl | exact .inr rfl))) (fun _ _ _ _ _ => (pts_one (PW.pt (pw_and (pt_cmpR (k_neD K hr.units) (pv 2) (pv 1) (nomark _)) (pw_and1 (pt_val (pe_call G_Linside (hr.mono (by omega)) (by rfl) g_Linside F_Linside.kp b_Linside .nil pass0 (pa_cons (pv 2) (pa_cons (pv 1) pa_nil))))))))) (fun _ _ _ _ _ => (pv 2))) (pe_lst pa_nil) (nomark _)))) (fun _ _ _ _ _ => (pv 1))) pa_nil)) pa_nil)))), ?_⟩
  exact gd_cb (ga_one (gl_cb (ga_one (GL.gd (gl_lc1 (j := 1) (xs := ts) (e := tS) (p := fun l => (ts.filter fun f => !decide (f = l) && isWithin f l).isEmpty) (f := tS) (gi_seqL (gd_var (i := 0) rfl r0)) (by omega) (fun _ => rfl)
      (fun l hl' G2 v2 e2 rl => gt_B (gd_eqNilT (GL.gd (gl_lc1 (j := 2) (xs := ts) (e := tS) (p := fun f => !decide (f = l) && isWithin f l) (f := tS) (gi_seqL (gd_var (i := 0) rfl (r0.mono e2))) (by omega) (fun _ => rfl)
        (fun f hf G3 v3 e3 rf => gt_and (gt_B (gd_op (gd_var (i := 2) rfl rf) (gd_var (i := 1) rfl (rl.mono e3)) (ro_neT (okT_mem ok hf) (okT_mem ok hl')))) fun _ => gt_test (gd_call (ga_two (gd_var (i := 2) rfl rf) (gd_var (i := 1) rfl (rl.mono e3))) rfl ⟨f, l, rfl, okT_mem ok hf, hl2 f hf, rfl⟩))
        (fun f hf _ G3 v3 e3 rf => gd_var (i := 2) rfl rf))) (okT_filter ok)))
      (fun l hl' _ G2 v2 e2 rl => gd_var (i := 1) rfl rl)))) (rl_sortT (.inl rfl) (Nat.le_trans (List.length_filter_le _ _) (by omega)))).gd) rb_tupL H e Q q
end
end Up

/-! text Up13 -/
set_option Elab.async false
set_option linter.all false
set_option maxRecDepth 100000
set_option maxHeartbeats 4000000
/-! the law's own defs: lines, stands -/
namespace Up
open PySem PySem.Spec PyProof.Rows L2 UpS
def lineOf (ns own : T1) : T2 := (ns.filter fun x => !decide (x ∈ own)).map fun x => own ++ [x]
def lineStep (ns : T1) (found : T2) : T2 := (found.map (lineOf ns)).flatten
def linesGo (ns : T1) : Nat → T2 → T2
  | 0, found => found
  | n + 1, found => linesGo ns n (lineStep ns found)
def linesM (ns : T1) : T2 := linesGo ns ns.length [[]]
theorem lineOf_len (ns own : T1) : (lineOf ns own).length ≤ ns.length := by
  unfold lineOf
  rw [List.length_map]
  exact List.length_filter_le _ _
theorem lineStep_len (ns : T1) : ∀ found : T2, (lineStep ns found).length ≤ ns.length * found.length
  | [] => Nat.zero_le _
  | own :: found => by
    have h1 := lineOf_len ns own
    have h2 := lineStep_len ns found
    unfold lineStep at h2 ⊢
    rw [List.map_cons, List.flatten_cons, List.length_append, List.length_cons, Nat.mul_add, Nat.mul_one]
    omega
theorem lineStep_snoc (ns : T1) (l : T2) (own : T1) : lineStep ns (l ++ [own]) = lineStep ns l ++ lineOf ns own := by
  unfold lineStep
  rw [List.map_append, List.flatten_append]
  simp
theorem lineStep_mem {ns : T1} {found : T2} {k : Nat} (h : ∀ t ∈ found, t.length ≤ k) : ∀ t ∈ lineStep ns found, t.length ≤ k + 1 := fun t ht => by
  unfold lineStep at ht
  obtain ⟨l, hl, ht⟩ := List.mem_flatten.mp ht
  obtain ⟨own, ho, rfl⟩ := List.mem_map.mp hl
  unfold lineOf at ht
  obtain ⟨x, _, rfl⟩ := List.mem_map.mp ht
  rw [List.length_append, List.length_singleton]
  exact Nat.succ_le_succ (h own ho)
theorem rangeD_at {n i : Nat} {d : D} (h : (rangeD n)[i]? = some d) : i < n ∧ d = .int (i : Int) := by
  unfold rangeD at h
  rw [List.getElem?_map] at h
  by_cases z : i < n
  · rw [List.getElem?_range z] at h; cases h; exact ⟨z, rfl⟩
  · rw [List.getElem?_eq_none (by rw [List.length_range]; omega)] at h; cases h
theorem rangeD_len (n : Nat) : (rangeD n).length = n := by unfold rangeD; rw [List.length_map, List.length_range]
theorem tS_snoc (a : T1) (x : Str) : D.tup (a.map D.str ++ [D.str x]) = tS (a ++ [x]) := by unfold tS; rw [List.map_append]; rfl
section
variable {P : Program} {w : World} {K : PySem.W.Frag} {mg : Str → Option Value} {base : Heap}
def fLines : List D → D → Prop := fun ds d => ∃ ns, ds = [tS ns] ∧ ns.length ≤ 4 ∧ d = .lst ((linesM ns).map tS)
theorem ok_Llines (M : Mo mg) (h : Df K mg "_law_lines" s_Llines p_Llines) : At P w K mg base "_law_lines" s_Llines p_Llines 1 (spD 1 fLines) := by
  obtain ⟨f, fd, F, b, g⟩ := h
  refine ⟨f, fd, F, b, g, F.ok c_Llines (fun vs H Q E h => h.1) (fun cdv A outer s H vs Q E hr h => ?_)⟩
  obtain ⟨_, ds, d, G, e, r, ⟨ns, rfl, hl, rfl⟩, q⟩ := h
  obtain ⟨v0, rfl, r0⟩ := r.i1
  refine ⟨_, (pss_cons
    (ps_set (i := 1) c_Llines.nd rfl (by first | exact .inl rfl | exact .inr rfl) (pe_lst (pa_cons (pe_tup pa_nil) pa_nil)))
    (pss_cons
    (ps_for PassesOwn.never rfl (pi_range1 (by rfl) M.range_ (pa_cons (pe_callB (k_len K) (by rfl) M.len_ PySem.boot_len (pa_cons (pv 0) pa_nil)) pa_nil)) (pg_name (i := 2) c_Llines.nd rfl (by first | exact .inl rfl | exact .inr rfl)) (pss_cons
        (ps_set (i := 3) c_Llines.nd rfl (by first | exact .inl rfl | exact .inr rfl) (pe_lst pa_nil))
        (pss_cons
        (ps_for PassesOwn.never rfl (k_seq K (pv 1)) (pg_name (i := 4) c_Llines.nd rfl (by first | exact .inl rfl | exact .inr rfl)) (pss_one
            (ps_set (i := 3) c_Llines.nd rfl (by first | exact .inl rfl | exact .inr rfl) (pe_op op_cat (pv 3) (pe_lc (own := [("_law_name", 5)]) rfl c_Llines.nd (k_seq K (pv 0)) (blkOk_by (by kernel_rfl)) (fun _ _ _ _ _ => (pg_name (i := 5) c_Llines.nd rfl (by first | exact .inl rfl | exact .inr rfl))) (fun _ _ _ _ _ => (pts_one (pt_cmpR (k_notIn K) (pv 5) (pv 4) (by rfl)))) (fun _ _ _ _ _ => (pe_op (k_catA K) (pv 4) (pe_tup (pa_cons (pv 5) pa_nil)))))))))
        (pss_one
        (ps_set (i := 1) c_Llines.nd rfl (by first | exact .inl rfl | exact .inr rfl) (pv 3))))))
    (pss_one
    (ps_ret (pv 1))))), ?_⟩
  refine sq_asg (d := .lst ([[]].map tS)) (gd_lst (ga_one (gd_tup ga_nil (Nat.zero_le _))) (by show 1 ≤ 100000; omega)) e fun v1 G1 H1 g1 r1 => ?_
  have gr := gi_range (n := ((ns.map D.str).length : Nat)) (σ := [some v0, some v1, none, none, none, none]) (G := G1) (ga_one (gd_cb (ga_one (gd_var (i := 0) rfl (r0.mono g1.gg))) (rb_lenT (K := K)))) (by rw [List.length_map]; omega) (by rw [List.length_map]; omega)
  rw [List.length_map, Int.toNat_natCast] at gr
  refine sd_for gr g1.gh fun G2 H2 g2 => ?_
  have gg2 := g1.trans g2
  refine ⟨fun i σ' G' H' => ∃ found v1 h2 h3 h4, σ' = [some v0, some v1, h2, h3, h4, none] ∧ Gr N0 G H G' H' ∧ Ex G2 G' ∧ Rp G' (.lst (found.map tS)) v1 ∧ i ≤ ns.length ∧ linesGo ns (ns.length - i) found = linesM ns ∧ found.length ≤ 4 ^ i ∧ ∀ t ∈ found, t.length ≤ i,
    ⟨[[]], v1, none, none, none, rfl, gg2, .refl _, r1.mono g2.gg, Nat.zero_le _, rfl, Nat.le_refl _, fun t ht => by rw [List.mem_singleton.mp ht]; exact Nat.le_refl _⟩, ?_, ?_, ?_⟩
  · rintro i σ' G' H' ⟨found, v1, h2, h3, h4, rfl, gg, e2, _⟩
    exact ⟨e2, gg.gh⟩
  · rintro i dd σ' G' H' v2 G3 H3 hdd ⟨found, v1, h2, h3, h4, rfl, gg, e2, rf, hi, hgo, hfl, hft⟩ g3 r2
    obtain ⟨hin, rfl⟩ := rangeD_at hdd
    have gg3 := gg.trans g3
    have hp : 4 ^ i ≤ 64 := Nat.le_trans (Nat.pow_le_pow_right (by decide) (show i ≤ 3 by omega)) (by decide)
    refine sq_asg (d := .lst ((lineStep ns (found.take 0)).map tS)) (gd_lst ga_nil (Nat.zero_le _)) gg3.gh fun v3 G4 H4 g4 r3 => ?_
    have gg4 := gg3.trans g4
    have g34 := g3.trans g4
    refine sd_for (gi_seqL (gd_var (i := 1) rfl (rf.mono g34.gg))) gg4.gh fun G5 H5 g5 => ?_
    have gg5 := gg4.trans g5
    have g35 := g34.trans g5
    rw [List.length_map]
    refine ⟨fun j σ'' G'' H'' => ∃ v3 h4, σ'' = [some v0, some v1, some v2, some v3, h4, none] ∧ Gr N0 G H G'' H'' ∧ Ex G5 G'' ∧ Rp G'' (.lst ((lineStep ns (found.take j)).map tS)) v3,
      ⟨v3, h4, rfl, gg5, .refl _, r3.mono g5.gg⟩, ?_, ?_, ?_⟩
    · rintro j σ'' G'' H'' ⟨v3, h4, rfl, gg, e5, _⟩
      exact ⟨e5, gg.gh⟩
    · rintro j dd σ'' G'' H'' v4 G6 H6 hdd ⟨v3, h4, rfl, ggj, e5, r3⟩ g6 r4
      obtain ⟨own, ho, rfl⟩ : ∃ p, found[j]? = some p ∧ dd = tS p := by
        rw [List.getElem?_map] at hdd
        cases q9 : found[j]? with
        | none => rw [q9] at hdd; cases hdd
        | some p => rw [q9] at hdd; cases hdd; exact ⟨p, rfl, rfl⟩
      have hol := hft own (List.mem_of_getElem? ho)
      have gg6 := ggj.trans g6
      have e06 : Ex G G6 := gg6.gg
      have lb1 := lineStep_len ns (found.take j)
      have lb2 := lineOf_len ns own
      have lb3 : (found.take j).length ≤ 64 := by rw [List.length_take]; omega
      have lb4 : ns.length * (found.take j).length ≤ 4 * 64 := Nat.mul_le_mul hl lb3
      refine s_asg (d := .lst ((lineStep ns (found.take (j + 1))).map tS)) (gd_is (gd_op (gd_var (i := 3) rfl (r3.mono g6.gg)) (GL.gd (gl_lc1 (j := 5) (xs := ns) (e := .str) (p := fun x => !decide (x ∈ own)) (f := fun x => tS (own ++ [x])) (gi_seqT (gd_var (i := 0) rfl (r0.mono e06))) (by omega) (fun _ => rfl)
        (fun x hx G7 v7 e7 rx => gt_B (gd_inT1 (neg := true) (gd_var (i := 5) rfl rx) (gd_var (i := 4) rfl (r4.mono e7)) (.inl rfl)))
        (fun x hx _ G7 v7 e7 rx => gd_is (gd_op (gd_var (i := 4) rfl (r4.mono e7)) (gd_tup (ga_one (gd_var (i := 5) rfl rx)) (by show 1 ≤ 100000; omega)) (ro_catT (by rw [List.length_map]; show own.length + 1 ≤ 100000; omega))) (tS_snoc own x)))) (ro_catL ?_)) ?_) gg6.gh fun v3' G8 H8 g8 r8 => ?_
      · unfold lineOf at lb2
        rw [List.length_map] at lb2
        rw [List.length_map, List.length_map]
        omega
      · rw [take_at ho, lineStep_snoc, List.map_append]
        unfold lineOf
        rw [List.map_map]; rfl
      · exact ⟨G8, v3', _, rfl, gg6.trans g8, e5.trans (g6.gg.trans g8.gg), r8⟩
    · rintro σ'' G'' H'' ⟨v3, h4, rfl, ggj, e5, r3⟩
      rw [List.take_length] at r3
      refine s_asg (gd_var (i := 3) rfl r3) ggj.gh fun v1' G8 H8 g8 r8 => ?_
      refine ⟨G8, lineStep ns found, v1', _, _, _, rfl, ggj.trans g8, e2.trans (g35.gg.trans (e5.trans g8.gg)), r8, hin, ?_, ?_, lineStep_mem hft⟩
      · rw [← hgo, show ns.length - i = (ns.length - (i + 1)) + 1 by omega]; rfl
      · have := lineStep_len ns found
        have h2 : ns.length * found.length ≤ 4 * 4 ^ i := Nat.mul_le_mul hl hfl
        rw [Nat.pow_succ]; omega
  · rintro σ' G' H' ⟨found, v1, h2, h3, h4, rfl, gg, e2, rf, hi, hgo, hfl, hft⟩
    rw [rangeD_len, Nat.sub_self] at hgo
    have hgo' : found = linesM ns := hgo
    rw [← hgo'] at q
    exact ⟨_, rfl, q v1 G' H' gg rf⟩
end
end Up

/-! text UpSum -/
set_option Elab.async false
set_option linter.all false
set_option maxRecDepth 100000
set_option maxHeartbeats 4000000
/-! sum(lists, []) -/
namespace PySem
theorem up_push2 (h : Heap) (o p : Obj) : h.objs.size ≤ ((h.push o).push p).objs.size := by
  simp only [Heap.push, Array.size_push]
  omega
theorem up_args_sum2 (a b : Value) : argsOk "sum" ⟨[a, b], []⟩ := by unfold argsOk; kernel_rfl
abbrev upL (its : Array Value) (n : Nat) : Obj := { cls := .type "list", data := .seq its n }
def upFlat (ls : List (Addr × List Value × Nat)) : List Value := (ls.map fun p => p.2.1).flatten
section
variable {prog : Program} {w : World} {A : Around} {R : Result → Shared → Prop}
theorem up_sum_loop (hh : A.handled = none) {I a S : Addr} {items : Array Value} (hIa : a ≠ I) (hSI : S ≠ I) (hSa : S ≠ a) : ∀ (ls : List (Addr × List Value × Nat)) (i : Nat) (s : Shared) (T : Addr) (acc : List Value) (nT c : Nat),
    items.toList.drop i = ls.map (fun p => Value.ref p.1) → i ≤ items.size → s.heap.IsListIter I a i → s.heap.IsList a items → s.heap.get? S = some { cls := .type "list", dict := none, data := .seq #[.ref T] c, slots := #[] } →
    s.heap.get? T = some (upL acc.toArray nT) → T ≠ S → T ≠ I → (∀ p ∈ ls, s.heap.get? p.1 = some (upL p.2.1.toArray p.2.2) ∧ p.1 ≠ S ∧ p.1 ≠ I) → acc.length + (upFlat ls).length ≤ sizeLine →
    (∀ h' T' n', (∀ b o, b ≠ I → b ≠ S → s.heap.get? b = some o → h'.get? b = some o) → (ls = [] → T' = T) → (ls ≠ [] → s.heap.objs.size ≤ T') → h'.get? T' = some (upL (acc ++ upFlat ls).toArray n') → R (.ok (.ret (.ref T'))) { s with heap := h' }) →
    codeAny (model prog w) A (.builtin "sum.loop" ⟨[.ref I, .ref S, rawInt 2, rawInt 0], []⟩) R s := by
  intro ls
  induction ls with
  | nil =>
    intro i s T acc nT c hd hi hI ha hS hT _ _ _ _ hR
    refine codeAny_builtin F.entry_sum_loop ?_
    rw [Around.under_plainId F.plain_sum_loop _]
    show wpAny _ A.in1 (seqItems? (.ref S) >>= _) _ _ s
    refine wpAny_bind (wpAny_seqItems hS rfl ?_)
    show wpAny _ A.in1 (tryCatch (pyNext (.ref I)) _ >>= _) _ _ s
    have hn : items[i]? = none := by
      have := congrArg List.length hd
      rw [List.length_drop, List.map_nil, List.length_nil, Array.length_toList] at this
      exact Array.getElem?_eq_none (by omega)
    refine wpAny_bind (wpAny_tryCatch (wpAny_pyNext_list_end hh hI ha hn fun h' hk => ?_))
    refine wpAny_pure (hR h' T nT (fun b o hb _ e => hk b o hb e) (fun _ => rfl) (fun z => absurd rfl z) ?_)
    unfold upFlat
    rw [List.map_nil, List.flatten_nil, List.append_nil]
    exact hk T _ (by assumption) hT
  | cons p ls ih =>
    intro i s T acc nT c hd hi hI ha hS hT hTS hTI hls hz hR
    have hlt : i < items.size := by
      have := congrArg List.length hd
      rw [List.length_drop, List.length_map, List.length_cons, Array.length_toList] at this
      omega
    have hx : items[i]? = some (.ref p.1) := by
      have h1 : items.toList[i]? = some (.ref p.1) := by
        have := congrArg (fun l => l[0]?) hd
        simp only [List.getElem?_drop, List.map_cons, List.getElem?_cons_zero, Nat.add_zero] at this
        exact this
      rwa [Array.getElem?_toList] at h1
    have hd' : items.toList.drop (i + 1) = ls.map (fun p => Value.ref p.1) := by
      have := congrArg (List.drop 1) hd
      rw [List.drop_drop, List.map_cons, List.drop_succ_cons, List.drop_zero] at this
      exact this
    obtain ⟨hp, hpS, hpI⟩ := hls p List.mem_cons_self
    have hzf : (upFlat (p :: ls)).length = p.2.1.length + (upFlat ls).length := by
      unfold upFlat
      rw [List.map_cons, List.flatten_cons, List.length_append]
    refine codeAny_builtin F.entry_sum_loop ?_
    rw [Around.under_plainId F.plain_sum_loop _]
    show wpAny _ A.in1 (seqItems? (.ref S) >>= _) _ _ s
    refine wpAny_bind (wpAny_seqItems hS rfl ?_)
    show wpAny _ A.in1 (tryCatch (pyNext (.ref I)) _ >>= _) _ _ s
    refine wpAny_bind (wpAny_tryCatch (wpAny_pyNext_list_item hI ha hx fun h1 hI1 hk1 => ?_))
    have k1 := hk1.extBut
    show wpAny _ A.in1 ((holding [Value.ref p.1] (binaryOp .Add (.ref T) (.ref p.1))).attempt >>= _) _ _ _
    have hsz : acc.toArray.size + p.2.1.toArray.size ≤ sizeLine := by rw [List.size_toArray, List.size_toArray]; omega
    refine wpAny_bind (wpAny_attempt (wpAny_holding (PySem.P.add_list (s := { s with heap := h1 }) (k1 T _ hTI hT) (k1 p.1 _ hpI hp) ?_ hsz)))
    have e1 : acc.toArray ++ p.2.1.toArray = (acc ++ p.2.1).toArray := by simp
    rw [e1]
    have size1 : h1.objs.size = s.heap.objs.size := hk1.1
    have lo : ∀ {b : Addr} {o : Obj}, s.heap.get? b = some o → b < s.heap.objs.size := fun e => Heap.lt_size e
    have hS1 : (h1.push (upL (acc ++ p.2.1).toArray 0)).get? S = some { cls := .type "list", dict := none, data := .seq #[.ref T] c, slots := #[] } := Heap.get?_push_of_some _ (k1 S _ hSI hS)
    show wpAny _ A.in1 (updateSeq S (fun _ => #[.ref h1.objs.size]) >>= _) _ _ _
    refine wpAny_bind (wpAny_updateSeq hS1 rfl ?_)
    have hS2 := Heap.get?_update_self (Obj.mapSeq fun _ => #[Value.ref h1.objs.size]) hS1 rfl
    refine wpAny_bind (wpAny_letGo ?_)
    refine wpAny_bind (wpAny_updateSeq hS2 rfl (wpAny_pure ⟨plainId_quiet F.plain_sum_loop _, ?_⟩))
    have hS3 := Heap.get?_update_self (Obj.mapSeq fun _ => #[Value.ref h1.objs.size]) hS2 rfl
    have up : ∀ {b : Addr} {o : Obj}, b ≠ S → (h1.push (upL (acc ++ p.2.1).toArray 0)).get? b = some o → (((h1.push (upL (acc ++ p.2.1).toArray 0)).update S (Obj.mapSeq fun _ => #[Value.ref h1.objs.size])).update S (Obj.mapSeq fun _ => #[Value.ref h1.objs.size])).get? b = some o := fun hb e =>
      (Heap.get?_update_other _ _ (fun h => hb h.symm)).trans ((Heap.get?_update_other _ _ (fun h => hb h.symm)).trans e)
    have old : ∀ {b : Addr} {o : Obj}, b ≠ I → b ≠ S → s.heap.get? b = some o → (((h1.push (upL (acc ++ p.2.1).toArray 0)).update S (Obj.mapSeq fun _ => #[Value.ref h1.objs.size])).update S (Obj.mapSeq fun _ => #[Value.ref h1.objs.size])).get? b = some o := fun hb hb2 e => up hb2 (Heap.get?_push_of_some _ (k1 _ _ hb e))
    have hTn : h1.objs.size ≠ S := fun z => Nat.lt_irrefl _ (by have h := lo hS; rw [← z, size1] at h; exact h)
    obtain ⟨oI, hoI, hI2, hI3⟩ := id hI1
    have hTI' : h1.objs.size ≠ I := fun z => Nat.lt_irrefl _ (by have h := Heap.lt_size hoI; rw [← z] at h; exact h)
    refine ih (i + 1) _ h1.objs.size (acc ++ p.2.1) 0 _ hd' hlt ⟨oI, up (fun z => hSI z.symm) (Heap.get?_push_of_some _ hoI), hI2, hI3⟩ ?_ hS3 (up hTn (Heap.get?_push_size _ rfl)) hTn hTI' (fun p' hp' => ?_) ?_ fun h' T' n' hk he hne ht => ?_
    · obtain ⟨oa, hoa, r⟩ := ha
      exact ⟨oa, old hIa (fun z => hSa z.symm) hoa, r⟩
    · obtain ⟨q1, q2, q3⟩ := hls p' (List.mem_cons_of_mem _ hp')
      exact ⟨old q3 q2 q1, q2, q3⟩
    · rw [List.length_append]; omega
    · have hs' : (((h1.push (upL (acc ++ p.2.1).toArray 0)).update S (Obj.mapSeq fun _ => #[Value.ref h1.objs.size])).update S (Obj.mapSeq fun _ => #[Value.ref h1.objs.size])).objs.size = s.heap.objs.size + 1 := by
        rw [← size1]
        simp [Heap.update, Heap.push]
      refine hR h' T' n' (fun b o hb hb2 e => hk b o hb hb2 (old hb hb2 e)) (fun z => nomatch z) (fun _ => ?_) ?_
      · by_cases z : ls = []
        · rw [he z, size1]
          exact Nat.le_refl _
        · exact Nat.le_trans (Nat.le_trans (Nat.le_succ _) (Nat.le_of_eq hs'.symm)) (hne z)
      · have e9 : acc ++ upFlat (p :: ls) = acc ++ p.2.1 ++ upFlat ls := by
          unfold upFlat
          rw [List.map_cons, List.flatten_cons, List.append_assoc]
        rw [e9]; exact ht
variable {E : Value → Shared → Prop}
theorem up_sum {s : Shared} {a b : Addr} {items : List Value} {nb : Nat} (hh : A.handled = none) (ls : List (Addr × List Value × Nat)) (he : items = ls.map (fun p => Value.ref p.1)) (ha : s.heap.IsList a items.toArray) (hb : s.heap.get? b = some (upL #[] nb))
    (hls : ∀ p ∈ ls, s.heap.get? p.1 = some (upL p.2.1.toArray p.2.2)) (hz : (upFlat ls).length ≤ sizeLine) {Q : Value → Shared → Prop}
    (hQ : ∀ h' T' n', (∀ b o, s.heap.get? b = some o → h'.get? b = some o) → (ls = [] → T' = b) → (ls ≠ [] → s.heap.objs.size ≤ T') → h'.get? T' = some (upL (upFlat ls).toArray n') → Q (.ref T') { s with heap := h' }) :
    wpAny (model prog w) A (call (.builtin "sum") [.ref a, .ref b]) Q E s := by
  refine call_function_tree F.kind_sum F.plain_sum F.entry_sum (up_args_sum2 _ _) ?_
  unfold Builtin.«sum»
  simp only [List.length_cons, List.length_nil]
  rw [if_neg (by decide)]
  refine wpAny_bind (wpAny_of_eq (show Builtin.Builtins.bindParams "sum" ["start"] 0 ⟨[.ref b], []⟩ = pure [some (.ref b)] from rfl) ?_)
  refine wpAny_bind (wpAny_pyIter_list ha ?_)
  refine wpAny_bind (wpAny_pure ?_)
  simp only [List.forIn_cons, List.forIn_nil]
  have hb1 : ∀ {o : Obj}, (s.heap.push o).get? b = some (upL #[] nb) := Heap.get?_push_of_some _ hb
  have hT : ∀ {o : Obj}, ({ s with heap := s.heap.push o } : Shared).TypeIs (.ref b) "list" := ⟨_, hb1, rfl⟩
  refine wpAny_bind (wpAny_bind (wpAny_bind (wpAny_isInstance (T := "list") (b := false) hT (by rfl) ?_)))
  simp only [Bool.false_eq_true, if_false]
  refine wpAny_pure (wpAny_bind (wpAny_bind (wpAny_isInstance (T := "list") (b := false) hT (by rfl) ?_)))
  simp only [Bool.false_eq_true, if_false]
  refine wpAny_pure (wpAny_bind (wpAny_bind (wpAny_isInstance (T := "list") (b := false) hT (by rfl) ?_)))
  simp only [Bool.false_eq_true, if_false]
  refine wpAny_pure (wpAny_pure ?_)
  refine wpAny_bind (wpAny_newObj_type ?_)
  obtain ⟨oa, hoa, ra⟩ := id ha
  have lo : ∀ {x : Addr} {o : Obj}, s.heap.get? x = some o → x < s.heap.objs.size := fun e => Heap.lt_size e
  have hsz : ∀ {o : Obj}, (s.heap.push o).objs.size = s.heap.objs.size + 1 := fun {o} => by simp [Heap.push]
  have neI : ∀ {x : Addr} {o : Obj}, s.heap.get? x = some o → x ≠ s.heap.objs.size := fun e z => Nat.lt_irrefl _ (by have h := lo e; rw [z] at h; exact h)
  have neS : ∀ {x : Addr} {o p : Obj}, s.heap.get? x = some o → x ≠ (s.heap.push p).objs.size := fun {x o p} e z => by
    have h := lo e
    rw [hsz] at z
    rw [z] at h
    exact absurd h (Nat.not_lt.mpr (Nat.le_succ _))
  have up2 : ∀ {x : Addr} {o p q : Obj}, s.heap.get? x = some o → ((s.heap.push p).push q).get? x = some o := fun e => Heap.get?_push_of_some _ (Heap.get?_push_of_some _ e)
  refine wpAny_pure ⟨plainId_quiet F.plain_sum_loop _, up_sum_loop hh (I := s.heap.objs.size) (a := a) (neI hoa) (by rw [hsz]; exact Nat.succ_ne_self _) (fun z => neS hoa z.symm) ls 0 _ b [] nb 0 (by rw [he]; rfl) (Nat.zero_le _)
    ⟨_, Heap.get?_push_of_some _ (Heap.get?_push_size _ rfl), rfl, rfl⟩ ⟨oa, up2 hoa, ra⟩ (Heap.get?_push_size _ rfl) (up2 hb) (neS hb) (neI hb) (fun p hp => ⟨up2 (hls p hp), neS (hls p hp), neI (hls p hp)⟩) (by rw [List.length_nil, Nat.zero_add]; exact hz)
    fun h' T' n' hk h1 h2 h3 => ?_⟩
  refine hQ h' T' n' (fun x o e => hk x o (neI e) (neS e) (up2 e)) h1 (fun z => ?_) h3
  have := h2 z
  exact Nat.le_trans (up_push2 _ _ _) this
end
end PySem
namespace Up
open PySem PySem.Spec PyProof.Rows L2
/-- sum(a list of lists, an empty list) -/
def rSumL : List V → Hp → VK → Prop := fun vs H Q => ∃ (a b : Addr) (L : List (Addr × List V)), vs = [V.ref a, V.ref b] ∧ H a = some (.lst (L.map fun p => V.ref p.1)) ∧ H b = some (.lst []) ∧ (∀ p ∈ L, H p.1 = some (.lst p.2)) ∧ ((L.map (·.2)).flatten).length ≤ sizeLine ∧
  (L = [] → Q (.ref b) H) ∧ (L ≠ [] → ∀ p, H p = none → Q (.ref p) (upd H p (.lst (L.map (·.2)).flatten)))
section
variable {X : Cx}
theorem vals_refs : ∀ {L : List (Addr × List V)} {us : List Value}, Vals (L.map fun p => V.ref p.1) us → us = L.map fun p => Value.ref p.1
  | [], _, h => by cases h; rfl
  | p :: L, _, h => by
    cases h with
    | cons r t => cases r; rw [vals_refs t]; rfl
theorem sum_parts {pins : List (Addr × Obj)} {σ : L2.St} {H : Hp} {s : Shared} (I : Inv X pins σ H s) : ∀ {L : List (Addr × List V)}, (∀ p ∈ L, H p.1 = some (.lst p.2)) → ∃ ls : List (Addr × List Value × Nat), ls.map (fun p => Value.ref p.1) = L.map (fun p => Value.ref p.1) ∧
    (∀ p ∈ ls, s.heap.get? p.1 = some (upL p.2.1.toArray p.2.2)) ∧ Vals (L.map (·.2)).flatten (upFlat ls) ∧ (L = [] ↔ ls = [])
  | [], _ => ⟨[], rfl, (fun p hp => nomatch hp), .nil, ⟨fun _ => rfl, fun _ => rfl⟩⟩
  | p :: L, h => by
    obtain ⟨ls, l1, l2, l3, l4⟩ := sum_parts I fun q hq => h q (List.mem_cons_of_mem _ hq)
    obtain ⟨_, its, n, r, _, e⟩ := I.lstM (h p List.mem_cons_self)
    refine ⟨(p.1, its, n) :: ls, by rw [List.map_cons, List.map_cons, l1], fun q hq => ?_, ?_, ⟨fun z => (nomatch z), fun z => (nomatch z)⟩⟩
    · rcases List.mem_cons.mp hq with z | z
      · rw [z]; exact e
      · exact l2 q z
    · rw [List.map_cons, List.flatten_cons]
      unfold upFlat at l3 ⊢
      rw [List.map_cons, List.flatten_cons]
      exact r.append l3
theorem call_sumL (hc : X.calm = true) : CallR X (.builtin "sum") rSumL := by
  intro pins s σ H vs us Q I r h
  obtain ⟨a, b, L, rfl, ha, hb, hL, hz, q0, q1⟩ := h
  obtain ⟨ls, l1, l2, l3, l4⟩ := sum_parts I hL
  obtain ⟨_, its, n, ri, _, e⟩ := I.lstM ha
  obtain ⟨_, itb, nb, rb, _, eb⟩ := I.lstM hb
  cases rb
  have ei := vals_refs ri
  cases r with
  | cons x1 t =>
  cases t with
  | cons x2 t =>
  cases t
  cases x1
  cases x2
  refine up_sum (I.ok.hd hc) ls (items := its) (by rw [ei, l1]) ⟨_, e, rfl, n, rfl⟩ eb l2 (by rw [← l3.length]; exact hz) fun h' T' n' hk h1 h2 h3 => ?_
  by_cases z : ls = []
  · obtain rfl := h1 z
    exact ⟨.ref _, H, I.kept (t' := s.toks) hk, rfl, q0 (l4.mpr z)⟩
  · exact ⟨.ref _, _, I.laid (t' := s.toks) (o := .lst (L.map (·.2)).flatten) hk (h2 z) ⟨hz, _, n', l3, h3⟩, rfl, q1 (fun y => z (l4.mp y)) _ (I.hok.fresh (h2 z))⟩
theorem k_sumL (hc : X.calm = true := by rfl) : CallR X (.builtin "sum") rSumL := call_sumL hc
end
section
variable {σ : L2.St} {G H : Hp} {te : TE}
theorem rps_lists {G : Hp} : ∀ {xs : List (List D)} {vs : List V}, Rps G (xs.map D.lst) vs → ∃ L : List (Addr × List V), vs = L.map (fun p => V.ref p.1) ∧ (∀ p ∈ L, G p.1 = some (.lst p.2)) ∧ Rps G xs.flatten (L.map (·.2)).flatten ∧ (L = [] ↔ xs = [])
  | [], _, h => by cases h; exact ⟨[], rfl, (fun p hp => nomatch hp), .nil, ⟨fun _ => rfl, fun _ => rfl⟩⟩
  | x :: xs, _, h => by
    cases h with
    | cons r t =>
      obtain ⟨L, rfl, l2, l3, l4⟩ := rps_lists t
      cases r with
      | @lst _ us _ ha rs =>
        refine ⟨(_, us) :: L, rfl, fun p hp => ?_, ?_, ⟨fun z => (nomatch z), fun z => (nomatch z)⟩⟩
        · rcases List.mem_cons.mp hp with z | z
          · rw [z]; exact ha
          · exact l2 p z
        · rw [List.map_cons, List.flatten_cons, List.flatten_cons]
          exact rs.append l3
theorem gd_sumL {xs : List (List D)} (h : GD te σ G (.lst (xs.map D.lst))) (hl : xs.flatten.length ≤ 100000) : GD (tCB rSumL (tCons te (tCons (tLst tNil) tNil))) σ G (.lst xs.flatten) := fun H e Q q =>
  (ga_two h (gd_lst ga_nil (Nat.zero_le _))) H e _ fun vs G1 H1 g1 r1 => by
    cases r1 with
    | cons ra t =>
    cases t with
    | cons rb t =>
    cases t
    cases ra with
    | lst ha rs =>
    cases rb with
    | lst hb rsb =>
    cases rsb
    obtain ⟨L, rfl, l2, l3, l4⟩ := rps_lists rs
    refine ⟨_, _, L, rfl, g1.gh _ _ ha, g1.gh _ _ hb, fun p hp => g1.gh _ _ (l2 p hp), by rw [← l3.len]; exact sz_of hl, fun z => ?_, fun z p hp => ?_⟩
    · have := l4.mp z
      subst this
      exact q _ G1 H1 g1 (.lst hb .nil)
    · exact q _ _ _ (g1.data hp) (.lst upd_same (l3.mono (Ex.new (g1.gh.free hp))))
end
end Up

/-! text Up14 -/
set_option Elab.async false
set_option linter.all false
set_option maxRecDepth 100000
set_option maxHeartbeats 4000000
/-! the law's own defs: read -/
namespace Up
open PySem PySem.Spec PyProof.Rows L2 UpS
theorem flat_len {α β : Type} (f : α → List β) (n : Nat) : ∀ l : List α, (∀ x ∈ l, (f x).length ≤ n) → (l.map f).flatten.length ≤ n * l.length
  | [], _ => Nat.zero_le _
  | a :: l, h => by
    have h1 := h a List.mem_cons_self
    have h2 := flat_len f n l fun x hx => h x (List.mem_cons_of_mem _ hx)
    rw [List.map_cons, List.flatten_cons, List.length_append, List.length_cons, Nat.mul_add, Nat.mul_one]
    omega
theorem mem_seq {α : Type} {e : α → D} {xs : List α} {i : Nat} {dd : D} (h : (xs.map e)[i]? = some dd) : ∃ p, xs[i]? = some p ∧ dd = e p := by
  rw [List.getElem?_map] at h
  cases q : xs[i]? with
  | none => rw [q] at h; cases h
  | some p => rw [q] at h; cases h; exact ⟨p, rfl, rfl⟩
structure RInv (ns : T1) (found : T2) : Prop where
  nd : found.Nodup
  at_ : ∀ s ∈ found, Sst ltS s ∧ ∀ x ∈ s, x ∈ ns
theorem RInv.few {ns : T1} {found : T2} (I : RInv ns found) (h : ns.length ≤ 5) : found.length ≤ 32 := by
  have h1 := few_sets I.nd I.at_
  have h2 : 2 ^ ns.length ≤ 2 ^ 5 := Nat.pow_le_pow_right (by decide) h
  omega
theorem RInv.len {ns : T1} {found : T2} (I : RInv ns found) (h : ns.length ≤ 5) {s : T1} (hs : s ∈ found) : s.length ≤ 5 := by
  have h1 := I.at_ s hs
  have := lenLe (h1.1.nodup ordS) h1.2
  omega
theorem RInv.start (ns : T1) : RInv ns [[]] := ⟨List.nodup_cons.mpr ⟨List.not_mem_nil, List.nodup_nil⟩, fun s hs => by rw [List.mem_singleton.mp hs]; exact ⟨List.Pairwise.nil, fun x hx => nomatch hx⟩⟩
theorem RInv.step {ns : T1} {found : T2} (I : RInv ns found) {line : T1} (h : ∀ x ∈ line, x ∈ ns) : RInv ns (rStep found line) := by
  refine ⟨(sset_sst ordT _).nodup ordT, fun s hs => ?_⟩
  obtain ⟨lot, hlot, k, rfl⟩ := mem_rStep.mp hs
  refine ⟨sset_sst ordS _, fun x hx => ?_⟩
  rcases List.mem_append.mp (mem_setOf.mp hx) with z | z
  · exact (I.at_ lot hlot).2 x z
  · exact h x (List.mem_of_mem_take z)
theorem RInv.sets {ns : T1} {found : T2} (I : RInv ns found) (h5 : ns.length ≤ 5) {line : T1} (h : ∀ x ∈ line, x ∈ ns) : ∀ l : T2, l.Nodup → (∀ x ∈ l, x ∈ (found.map fun lot => (heads line).map fun own => setOf (lot ++ own)).flatten) → l.length < 60 := fun l nd hl => by
  have h1 := few_sets (ns := ns) nd fun t ht => (I.step h).at_ t (by
    unfold rStep
    exact mem_sset.mpr (hl t ht))
  have h2 : 2 ^ ns.length ≤ 2 ^ 5 := Nat.pow_le_pow_right (by decide) h5
  omega
section
variable {P : Program} {w : World} {K : PySem.W.Frag} {mg : Str → Option Value} {base : Heap}
def fRead : List D → D → Prop := fun ds d => ∃ (rolls : T2) (ns : T1), ds = [tT rolls] ∧ ns.length ≤ 5 ∧ (∀ l ∈ rolls, l.length ≤ 20 ∧ ∀ x ∈ l, x ∈ ns) ∧ d = .lst ((readM rolls).map tS)
theorem ok_Lread (M : Mo mg) (h : Df K mg "_law_read" s_Lread p_Lread) : At P w K mg base "_law_read" s_Lread p_Lread 1 (spD 1 fRead) := by
  obtain ⟨f, fd, F, b, g⟩ := h
  refine ⟨f, fd, F, b, g, F.ok c_Lread (fun vs H Q E h => h.1) (fun cdv A outer s H vs Q E hr h => ?_)⟩
  obtain ⟨_, ds, d, G, e, r, ⟨rolls, ns, rfl, hl, hr9, rfl⟩, q⟩ := h
  obtain ⟨v0, rfl, r0⟩ := r.i1
  refine ⟨_, (pss_cons
    (ps_set (i := 1) c_Lread.nd rfl (by first | exact .inl rfl | exact .inr rfl) (pe_lst (pa_cons (pe_tup pa_nil) pa_nil)))
    (pss_cons
    (ps_for PassesOwn.never rfl (k_seq K (pv 0)) (pg_name (i := 2) c_Lread.nd rfl (by first | exact .inl rfl | exact .inr rfl)) (pss_cons
        (ps_set (i := 3) c_Lread.nd rfl (by first | exact .inl rfl | exact .inr rfl) (pe_lc (own := [("_law_k", 4)]) rfl c_Lread.nd (pi_range1 (by rfl) M.range_ (pa_cons (pe_op op_add (pe_callB (k_len K) (by rfl) M.len_ PySem.boot_len (pa_cons (pv 2) pa_nil)) pe_int) pa_nil)) (blkOk_by (by kernel_rfl)) (fun _ _ _ _ _ => (pg_name (i := 4) c_Lread.nd rfl (by first | exact .inl rfl | exact .inr rfl))) (fun _ _ _ _ _ => pts_nil) (fun _ _ _ _ _ => (pe_callTy (k_tuple K) (by rfl) M.tuple_ PyProof.Rows.boot_tuple (pa_cons (pe_slice (k_slA K) (pv 2) po_none (po_some (pv 4))) pa_nil)))))
        (pss_one
        (ps_set (i := 1) c_Lread.nd rfl (by first | exact .inl rfl | exact .inr rfl) (pe_callB (k_sorted K w hr.units) (by rfl) M.sorted_ PyProof.Rows.boot_sorted (pa_cons (pe_callTy (k_set K w hr.units) (by rfl) M.set_ PyProof.Rows.boot_set (pa_cons (pe_callB k_sumL (by rfl) M.sum_ PyProof.Rows.boot_sum (pa_cons (pe_lc (own := [("_law_lot", 5)]) rfl c_Lread.nd (k_seq K (pv 1)) (blkOk_by (by kernel_rfl)) (fun _ _ _ _ _ => (pg_name (i := 5) c_Lread.nd rfl (by first | exact .inl rfl | exact .inr rfl))) (fun _ _ _ _ _ => pts_nil) (fun _ _ _ _ _ => (pe_lc (own := [("_law_own", 6)]) rfl c_Lread.nd (k_seq K (pv 3)) (blkOk_by (by kernel_rfl)) (fun _ _ _ _ _ => (pg_name (i := 6) c_Lread.nd rfl (by first | exact .inl rfl | exact .inr rfl))) (fun _ _ _ _ _ => pts_nil) (fun _ _ _ _ _ => (pe_callTy (k_tuple K) (by rfl) M.tuple_ PyProof.Rows.boot_tuple (pa_cons (pe_callB (k_sorted K w hr.units) (by rfl) M.sorted_ PyProof.Rows.boot_sorted (pa_cons (pe_callTy (k_set K w hr.units) (by rfl) M.set_ PyProof.Rows.boot_set (pa_cons (pe_op (k_catA K) (pv 5) (pv 6)) pa_nil)) pa_nil)) pa_nil)))))) (pa_cons (pe_lst pa_nil) pa_nil))) pa_nil)) pa_nil))))))
    (pss_one
    (ps_ret (pv 1))))), ?_⟩
  refine sq_asg (d := .lst ([[]].map tS)) (gd_lst (ga_one (gd_tup ga_nil (Nat.zero_le _))) (by show 1 ≤ 100000; omega)) e fun v1 G1 H1 g1 r1 => ?_
  refine sd_for (gi_seqT (gd_var (i := 0) rfl (r0.mono g1.gg))) g1.gh fun G2 H2 g2 => ?_
  have gg2 := g1.trans g2
  rw [List.length_map]
  refine ⟨fun i σ' G' H' => ∃ found v1 h2 h3, σ' = [some v0, some v1, h2, h3, none, none, none] ∧ Gr N0 G H G' H' ∧ Ex G2 G' ∧ Rp G' (.lst (found.map tS)) v1 ∧ found = (rolls.take i).foldl rStep [[]] ∧ RInv ns found,
    ⟨[[]], v1, none, none, rfl, gg2, .refl _, r1.mono g2.gg, rfl, .start ns⟩, ?_, ?_, ?_⟩
  · rintro i σ' G' H' ⟨found, v1, h2, h3, rfl, gg, e2, _⟩
    exact ⟨e2, gg.gh⟩
  · rintro i dd σ' G' H' v2 G3 H3 hdd ⟨found, v1, h2, h3, rfl, gg, e2, rf, hf, I⟩ g3 r2
    obtain ⟨line, ho, rfl⟩ := mem_seq hdd
    obtain ⟨hll, hln⟩ := hr9 line (List.mem_of_getElem? ho)
    have gg3 := gg.trans g3
    have gr := gi_range (n := ((line.map D.str).length : Nat) + 1) (σ := [some v0, some v1, some v2, h3, none, none, none]) (G := G3) (ga_one (gd_op (r := rI0 fun i j => V.int (i + j)) (gd_cb (ga_one (gd_var (i := 2) rfl r2)) (rb_lenT (K := K))) (gd_c (.int 1)) ro_int)) (by rw [List.length_map]; omega) (by rw [List.length_map]; omega)
    rw [List.length_map, show ((line.length : Int) + 1).toNat = line.length + 1 by omega] at gr
    refine sq_asg (d := .lst ((heads line).map tS)) (gd_is (GL.gd (gl_lc0 (j := 4) (xs := List.range (line.length + 1)) (e := fun (i : Nat) => D.int (i : Int)) (f := fun k => tS (line.take k)) gr (by rw [List.length_range]; omega) (fun _ => rfl)
      fun k hk G4 v4 e4 r4 => gd_is (gd_cb (ga_one (gd_slT (gd_var (i := 2) rfl (r2.mono e4)) go_none (go_some (gd_var (i := 4) rfl r4)))) rb_tupT) (by rw [cutD_to, ← List.map_take]; rfl))) (by unfold heads; rw [List.map_map]; rfl)) gg3.gh fun v3 G4 H4 g4 r3 => ?_
    have gg4 := gg3.trans g4
    have hlen : (heads line).length = line.length + 1 := by unfold heads; rw [List.length_map, List.length_range]
    have few := I.few hl
    have e34 : Ex G' G4 := g3.gg.trans g4.gg
    have big : (found.map fun lot => (heads line).map fun own => tS (setOf (lot ++ own))).flatten.length ≤ 100000 := by
      have := flat_len (fun lot => (heads line).map fun own => tS (setOf (lot ++ own))) 21 found fun x hx => by rw [List.length_map]; omega
      omega
    have eflat : (found.map fun lot => (heads line).map fun own => tS (setOf (lot ++ own))).flatten = ((found.map fun lot => (heads line).map fun own => setOf (lot ++ own)).flatten).map tS := by
      rw [List.map_flatten, List.map_map]
      congr 1
      refine List.map_congr_left fun x _ => ?_
      show _ = ((heads line).map _).map tS
      rw [List.map_map]; rfl
    refine s_asg (d := .lst ((rStep found line).map tS)) (GL.gd (gl_sortSetT (gd_is (gd_sumL (xs := found.map fun lot => (heads line).map fun own => tS (setOf (lot ++ own))) (gd_is (GL.gd (gl_lc0 (j := 5) (xs := found) (e := tS) (f := fun lot => D.lst ((heads line).map fun own => tS (setOf (lot ++ own)))) (gi_seqL (gd_var (i := 1) rfl (rf.mono e34))) (by omega) (fun _ => rfl)
      fun lot hlot G5 v5 e5 r5 => GL.gd (gl_lc0 (j := 6) (xs := heads line) (e := tS) (f := fun own => tS (setOf (lot ++ own))) (gi_seqL (gd_var (i := 3) rfl (r3.mono e5))) (by omega) (fun _ => rfl)
        fun own hown G6 v6 e6 r6 => gd_cb (ga_one (GL.gd (gl_sortSetS (xs := lot ++ own) (gd_is (gd_op (gd_var (i := 5) rfl (r5.mono e6)) (gd_var (i := 6) rfl r6) (ro_catT ?_)) (show D.tup (lot.map D.str ++ own.map D.str) = .tup ((lot ++ own).map .str) by rw [List.map_append])) (.inr rfl) ?_))) rb_tupL))) (by rw [List.map_map]; rfl)) big) (by rw [eflat])) (I.sets hl hln))) gg4.gh fun v1' G5 H5 g5 r5 => ?_
    · have h1 := I.len hl hlot
      obtain ⟨k, rfl⟩ := mem_heads.mp hown
      have h2 : (line.take k).length ≤ line.length := by rw [List.length_take]; exact Nat.min_le_right _ _
      rw [List.length_map, List.length_map]; omega
    · have h1 := I.len hl hlot
      obtain ⟨k, rfl⟩ := mem_heads.mp hown
      have h2 : (line.take k).length ≤ line.length := by rw [List.length_take]; exact Nat.min_le_right _ _
      rw [List.length_append]; omega
    · refine ⟨G5, rStep found line, v1', _, _, rfl, gg4.trans g5, e2.trans (e34.trans g5.gg), r5, ?_, I.step hln⟩
      rw [take_at ho, List.foldl_append, ← hf]; rfl
  · rintro σ' G' H' ⟨found, v1, h2, h3, rfl, gg, e2, rf, hf, I⟩
    rw [List.take_length] at hf
    refine ⟨_, rfl, q v1 G' H' gg ?_⟩
    unfold readM
    rw [← hf]; exact rf
end
end Up

/-! text Up15 -/
set_option Elab.async false
set_option linter.all false
set_option maxRecDepth 100000
set_option maxHeartbeats 4000000
/-! the law's own defs: stands -/
namespace Up
open PySem PySem.Spec PyProof.Rows L2 UpS
theorem okT_of {ns : T1} (h : okS ns = true) {ts : T2} (hs : ∀ t ∈ ts, ∀ x ∈ t, x ∈ ns) : okT ts = true := by
  unfold okT
  refine List.all_eq_true.mpr fun t ht => ?_
  unfold okS at h ⊢
  exact List.all_eq_true.mpr fun x hx => List.all_eq_true.mp h x (hs t ht x hx)
theorem come_in (b : Bk) (up : T1) : ∀ u ∈ comeM b up, u ∈ names b := fun u hu => by
  unfold comeM at hu
  obtain ⟨p, hp, rfl⟩ := List.mem_map.mp hu
  exact List.mem_map.mpr ⟨p, (List.mem_filter.mp hp).1, rfl⟩
theorem come_out (b : Bk) (up : T1) : ∀ u ∈ comeM b up, u ∉ up := fun u hu => by
  unfold comeM at hu
  obtain ⟨p, hp, rfl⟩ := List.mem_map.mp hu
  have := (List.mem_filter.mp hp).2
  unfold comeP at this
  rw [Bool.and_eq_true, Bool.not_eq_true', decide_eq_false_iff_not] at this
  exact this.1
theorem come_len (b : Bk) (up : T1) : (comeM b up).length ≤ b.length := by
  unfold comeM
  rw [List.length_map]
  exact List.length_filter_le _ _
structure LInv (b : Bk) (st : T2 × T2) : Prop where
  nd : st.1.Nodup
  at_ : ∀ t ∈ st.1, Sst ltS t ∧ ∀ x ∈ t, x ∈ names b
  fr : ∀ t ∈ st.2, t ∈ st.1
theorem LInv.few {b : Bk} {st : T2 × T2} (I : LInv b st) : st.1.length ≤ 2 ^ b.length := by
  have h := few_sets (ns := names b) I.nd I.at_
  unfold names at h
  rwa [List.length_map] at h
theorem LInv.len {b : Bk} {st : T2 × T2} (I : LInv b st) {t : T1} (h : t ∈ st.1) : t.length ≤ b.length := by
  have q := I.at_ t h
  have := lenLe (m := names b) (q.1.nodup ordS) q.2
  unfold names at this
  rwa [List.length_map] at this
theorem LInv.step {b : Bk} {here : T1} {st : T2 × T2} {u : Str} (I : LInv b st) (hh : here ∈ st.1) (hu : u ∈ names b) (ho : u ∉ here) : LInv b (lStep here st u) ∧ here ∈ (lStep here st u).1 ∧ (lStep here st u).1.length + st.2.length = st.1.length + (lStep here st u).2.length := by
  unfold lStep
  by_cases h : isort ltS (here ++ [u]) ∈ st.1
  · rw [if_pos h]; exact ⟨I, hh, rfl⟩
  · rw [if_neg h]
    refine ⟨⟨nodup_snoc I.nd h, fun t ht => ?_, fun t ht => ?_⟩, List.mem_append_left _ hh, ?_⟩
    · rcases List.mem_append.mp ht with z | z
      · exact I.at_ t z
      · rw [List.mem_singleton.mp z]
        refine ⟨isort_sst ordS (nodup_snoc ((I.at_ here hh).1.nodup ordS) ho), fun x hx => ?_⟩
        rcases List.mem_append.mp (mem_isort.mp hx) with y | y
        · exact (I.at_ here hh).2 x y
        · rw [List.mem_singleton.mp y]; exact hu
    · rcases List.mem_append.mp ht with z | z
      · exact List.mem_append_left _ (I.fr t z)
      · exact List.mem_append_right _ z
    · simp only [List.length_append, List.length_singleton]; omega
theorem LInv.start (b : Bk) : LInv b ([[]], [[]]) := ⟨List.nodup_cons.mpr ⟨List.not_mem_nil, List.nodup_nil⟩, fun s hs => by rw [List.mem_singleton.mp hs]; exact ⟨List.Pairwise.nil, fun x hx => nomatch hx⟩, fun t ht => ht⟩
section
variable {σ : L2.St} {G H : Hp} {ta tb : TE} {tz : TS} {En : Ends} {xs ys : List D}
theorem sq_tparLL {i j : Nat} (h : GL ta σ G xs) (h2 : GL tb σ G ys) (e : Ex G H) (k : ∀ p vs q ws G' H', Gr N0 G H G' H' → H p = none → H q = none → p ≠ q → G' p = none → G' q = none → H' p = some (.lst vs) → H' q = some (.lst ws) → Rps G' xs vs → Rps G' ys ws → tz En ((σ.set i (some (.ref p))).set j (some (.ref q))) H') : tSeq (tPar i j (tCons ta (tCons tb tNil))) tz En σ H :=
  h H e _ fun p vs G1 H1 g1 a1 a2 a3 a4 => (h2.mono g1.gg) H1 g1.gh _ fun q ws G2 H2 g2 b1 b2 b3 b4 =>
    ⟨_, _, rfl, k p vs q ws G2 H2 (g1.trans g2) a1 (g1.free b1) (fun z => by rw [z, b1] at a3; cases a3) (g2.off a2 a3) b2 (g2.at0 a3) b3 (a4.mono g2.gg) b4⟩
end
section
variable {P : Program} {w : World} {K : PySem.W.Frag} {mg : Str → Option Value} {base : Heap}
def fStands : List D → D → Prop := fun ds d => ∃ b, ds = [bkT b] ∧ Sm b ∧ okB b = true ∧ d = .lst ((standsM b).map tS)
theorem ok_Lstands (M : Mo mg) (h : Df K mg "_law_stands" s_Lstands p_Lstands) (hC : At P w K mg base "_law_come" s_Lcome p_Lcome 1 (spD 2 fCome)) : At P w K mg base "_law_stands" s_Lstands p_Lstands 2 (spD 1 fStands) := by
  obtain ⟨f_Lcome, fd_Lcome, F_Lcome, b_Lcome, g_Lcome, G_Lcome⟩ := hC
  obtain ⟨f, fd, F, b, g⟩ := h
  refine ⟨f, fd, F, b, g, F.ok c_Lstands (fun vs H Q E h => h.1) (fun cdv A outer s H vs Q E hr h => ?_)⟩
  obtain ⟨_, ds, d, G, e, r, ⟨bk, rfl, S, ok, rfl⟩, q⟩ := h
  obtain ⟨v0, rfl, rx⟩ := r.i1
  refine ⟨_, (pss_cons
    (ps_par (i := 1) (j := 2) rfl c_Lstands.nd rfl rfl (by decide) rfl rfl (pa_cons (pe_lst (pa_cons (pe_tup pa_nil) pa_nil)) (pa_cons (pe_lst (pa_cons (pe_tup pa_nil) pa_nil)) pa_nil)) (by rfl))
    (pss_cons
    (ps_while PassesOwn.never (pt_cmpR (k_neD K hr.units) (pv 2) (pe_lst pa_nil) (nomark _)) (pss_cons
        (ps_set (i := 3) c_Lstands.nd rfl (by first | exact .inl rfl | exact .inr rfl) (pe_bm0 PySem.F.plainAttrs_list PySem.F.slot_list_pop PySem.F.type_list_pop mt_pop (pv 2)))
        (pss_one
        (ps_for PassesOwn.never rfl (k_seq K (pe_call G_Lcome (hr.mono (by omega)) (by rfl) g_Lcome F_Lcome.kp b_Lcome .nil pass0 (pa_cons (pv 0) (pa_cons (pv 3) pa_nil)))) (pg_name (i := 4) c_Lstands.nd rfl (by first | exact .inl rfl | exact .inr rfl)) (pss_cons
            (ps_set (i := 5) c_Lstands.nd rfl (by first | exact .inl rfl | exact .inr rfl) (pe_callTy (k_tuple K) (by rfl) M.tuple_ PyProof.Rows.boot_tuple (pa_cons (pe_callB (k_sorted K w hr.units) (by rfl) M.sorted_ PyProof.Rows.boot_sorted (pa_cons (pe_op (k_catA K) (pv 3) (pe_tup (pa_cons (pv 4) pa_nil))) pa_nil)) pa_nil)))
            (pss_one
            (ps_if (pt_cmpR (k_notInD K (hu65 hr)) (pv 5) (pv 1) (by rfl)) (pss_cons
                (ps_expr (pe_bm PySem.F.plainAttrs_list PySem.F.slot_list_append PySem.F.type_list_append mt_append (pv 1) (pa_cons (pv 5) pa_nil)))
                (pss_one
                (ps_expr (pe_bm PySem.F.plainAttrs_list PySem.F.slot_list_append PySem.F.type_list_append mt_append (pv 2) (pa_cons (pv 5) pa_nil))))) pss_nil)))))))
    (pss_one
    (ps_ret (pe_callB (k_sorted K w hr.units) (by rfl) M.sorted_ PyProof.Rows.boot_sorted (pa_cons (pv 1) pa_nil)))))), ?_⟩
  have len := S.len
  have hN : 2 ^ bk.length ≤ 1024 := Nat.le_trans (Nat.pow_le_pow_right (by decide) len) (by decide)
  have okn := okB_names ok
  refine sq_tparLL (gl_lst (ga_one (gd_tup ga_nil (Nat.zero_le _))) (by show 1 ≤ 100000; omega)) (gl_lst (ga_one (gd_tup ga_nil (Nat.zero_le _))) (by show 1 ≤ 100000; omega)) e fun F0 vsF R0 vsR G2 H2 gg2 hFH hRH neFR hF2 hR2 hF3 hR3 rF rR => ?_
  refine s_whileH (fun m σ' H' => ∃ G' f fr vsF vsR h3 h4 h5, σ' = [some v0, some (.ref F0), some (.ref R0), h3, h4, h5] ∧ Gr N0 G H G' H' ∧ G' F0 = none ∧ G' R0 = none ∧ H' F0 = some (.lst vsF) ∧ H' R0 = some (.lst vsR) ∧
      Rps G' (f.map tS) vsF ∧ Rps G' (fr.map tS) vsR ∧ LInv bk (f, fr) ∧ lLoop bk m (f, fr) = lLoop bk (2 ^ bk.length) ([[]], [[]]) ∧ m + f.length = 2 ^ bk.length + fr.length ∧ m ≤ 2 ^ bk.length)
    (n := 2 ^ bk.length) ⟨G2, [[]], [[]], vsF, vsR, none, none, none, rfl, gg2, hF2, hR2, hF3, hR3, rF, rR, .start bk, rfl, rfl, Nat.le_refl _⟩ ?_
  rintro m σ' H' ⟨G', f, fr, vsF, vsR, h3, h4, h5, rfl, gg, gF', gR', hF', hR', rF, rR', I, hs, hm, hml⟩
  have hvl := rR'.len
  rw [List.length_map] at hvl
  have few := I.few
  have okf : okT f = true := okT_of okn fun t ht => (I.at_ t ht).2
  have okfr : okT fr = true := okT_of okn fun t ht => (I.at_ t (I.fr t ht)).2
  refine GT.own (G := G') (p := R0) (o := .lst vsR) (b := !fr.isEmpty) ?_ gg.gh gR' hR' (by intro _ z; cases z) _ fun G3 H3 g3 => ?_
  · have rl : Rp (upd G' R0 (.lst vsR)) (.lst (fr.map tS)) (.ref R0) := .lst upd_same (rR'.mono (Ex.new gR'))
    exact gt_B (gd_neNilT (gd_var (σ := [some v0, some (V.ref F0), some (V.ref R0), h3, h4, h5]) (i := 2) rfl rl) okfr)
  have hF3' := g3.at0 hF'
  have hR3' := g3.at0 hR'
  have gF3 := g3.off gF' hF'
  have gR3 := g3.off gR' hR'
  have gg3 := gg.trans g3
  rcases List.eq_nil_or_concat fr with rfl | ⟨fr0, here, rfl⟩
  · refine iteF ?_
    have e9 : f = lLoop bk (2 ^ bk.length) ([[]], [[]]) := by
      rw [← hs]
      cases m with
      | zero => rfl
      | succ m => rfl
    have gs := gg3.seal hFH hF3'
    have rf9 : Rp (upd G3 F0 (.lst vsF)) (.lst (f.map tS)) (.ref F0) := .lst upd_same ((rF.mono g3.gg).mono (Ex.new gF3))
    refine (GL.gd (gl_cb (ga_one (gd_var (i := 1) rfl rf9)) (rl_sortT (.inl rfl) (by simp only at few; omega)))) H3 gs.gh _ fun v G5 H5 g5 r5 => q v G5 H5 (gs.trans g5) ?_
    unfold standsM
    rw [← e9]; exact r5
  · simp only [List.concat_eq_append] at hs hm I rR' okfr ⊢
    rw [show (!(fr0 ++ [here]).isEmpty) = true by simp]
    refine iteT ?_
    cases m with
    | zero =>
      rw [List.length_append, List.length_singleton] at hm
      simp only at few
      omega
    | succ m =>
    have hs' : lLoop bk m ((comeM bk here).foldl (lStep here) (f, fr0)) = lLoop bk (2 ^ bk.length) ([[]], [[]]) := by
      rw [← hs]
      conv => rhs; unfold lLoop
      simp only [List.getLast?_concat, List.dropLast_concat]
    rw [List.map_append] at rR'
    obtain ⟨us, v3, rfl, ru, r3⟩ := rps_snoc rR'
    have hh : here ∈ f := I.fr here (List.mem_append_right _ (List.mem_singleton.mpr rfl))
    have I0 : LInv bk (f, fr0) := ⟨I.nd, I.at_, fun t ht => I.fr t (List.mem_append_left _ ht)⟩
    refine ⟨fun σ'' H'' => ∃ m', m' < m + 1 ∧ _, fun _ _ z => z, ?_⟩
    refine e_pop rfl hR3' ?_
    have gg5 := gg3.put (o := .lst us) (.inl hRH) gR3
    have hhl := I0.len hh
    refine sd_for (gi_seqL (gd_call (ga_two (gd_var (i := 0) rfl (rx.mono gg3.gg)) (gd_var (i := 3) rfl (r3.mono g3.gg))) rfl ⟨bk, here, rfl, S, ok, rfl⟩)) gg5.gh fun G6 H6 g6 => ?_
    have gg6 := gg5.trans g6
    have rh6 := (r3.mono g3.gg).mono g6.gg
    have hc := come_len bk here
    rw [List.length_map]
    refine ⟨fun i σ'' G'' H'' => ∃ f' fr' vsF' vsR' h4' h5', σ'' = [some v0, some (.ref F0), some (.ref R0), some v3, h4', h5'] ∧ Ex G6 G'' ∧ Gr N0 G H G'' H'' ∧ G'' F0 = none ∧ G'' R0 = none ∧ H'' F0 = some (.lst vsF') ∧ H'' R0 = some (.lst vsR') ∧
        Rps G'' (f'.map tS) vsF' ∧ Rps G'' (fr'.map tS) vsR' ∧ (f', fr') = ((comeM bk here).take i).foldl (lStep here) (f, fr0) ∧ LInv bk (f', fr') ∧ here ∈ f' ∧ f'.length + fr0.length = f.length + fr'.length,
        ⟨f, fr0, vsF, us, h4, h5, rfl, .refl _, gg6, g6.off gF3 (by rw [upd_ne neFR]; exact hF3'), g6.off gR3 upd_same, g6.at0 (by rw [upd_ne neFR]; exact hF3'), g6.at0 upd_same, (rF.mono g3.gg).mono g6.gg, (ru.mono g3.gg).mono g6.gg, rfl, I0, hh, rfl⟩, ?_, ?_, ?_⟩
    · rintro i σ'' G'' H'' ⟨f', fr', vsF', vsR', h4', h5', rfl, e6, gg, _⟩
      exact ⟨e6, gg.gh⟩
    · rintro i dd σ'' G'' H'' v4 G7 H7 hdd ⟨f', fr', vsF', vsR', h4', h5', rfl, e6, gg, gF4, gR4, hF4, hR4, rF4, rR4, efr, I4, hh4, hl4⟩ g7 r4
      obtain ⟨u, hu, rfl⟩ := mem_seq hdd
      have hum := List.mem_of_getElem? hu
      have hun := come_in bk here u hum
      have gg7 := gg.trans g7
      have efr' : lStep here (f', fr') u = ((comeM bk here).take (i + 1)).foldl (lStep here) (f, fr0) := by
        rw [take_at hu, List.foldl_append, ← efr]; rfl
      have st := I4.step hh4 hun (come_out bk here u hum)
      refine sq_asg (d := tS (isort ltS (here ++ [u]))) (gd_cb (ga_one (GL.gd (gl_cb (ga_one (gd_is (gd_op (gd_var (i := 3) rfl ((rh6.mono e6).mono g7.gg)) (gd_tup (ga_one (gd_var (i := 4) rfl r4)) (by show 1 ≤ 100000; omega)) (ro_catT (by rw [List.length_map]; show here.length + 1 ≤ 100000; omega))) (tS_snoc here u))) (rl_sortS (.inr rfl))))) rb_tupL) gg7.gh fun v5 G8 H8 g8 r5 => ?_
      have gg8 := gg7.trans g8
      have g78 := g7.trans g8
      have gF8 := g78.off gF4 hF4
      have gR8 := g78.off gR4 hR4
      have hF8 := g78.at0 hF4
      have hR8 := g78.at0 hR4
      have rF8 := rF4.mono g78.gg
      have ok4 : okT f' = true := okT_of okn fun t ht => (I4.at_ t ht).2
      have okm : okS (isort ltS (here ++ [u])) = true := by
        have := okT_of (ts := [isort ltS (here ++ [u])]) okn fun t ht x hx => by
          rw [List.mem_singleton.mp ht] at hx
          rcases List.mem_append.mp (mem_isort.mp hx) with y | y
          · exact (I4.at_ here hh4).2 x y
          · rw [List.mem_singleton.mp y]; exact hun
        exact okT_mem this (List.mem_singleton.mpr rfl)
      unfold tIfS
      refine GT.own (G := G8) (p := F0) (o := .lst vsF') (b := !decide (isort ltS (here ++ [u]) ∈ f')) ?_ gg8.gh gF8 hF8 (by intro _ z; cases z) _ fun G9 H9 g9 => ?_
      · have rd : Rp (upd G8 F0 (.lst vsF')) (.lst (f'.map tS)) (.ref F0) := .lst upd_same (rF8.mono (Ex.new gF8))
        exact gt_B (gd_op (gd_var (σ := [some v0, some (V.ref F0), some (V.ref R0), some v3, some v4, some v5]) (i := 5) rfl (r5.mono (Ex.new gF8))) (gd_var (i := 1) rfl rd) (ro_notInT okm ok4))
      have g79 := g78.trans g9
      have gg9 := gg8.trans g9
      have gF9 := g79.off gF4 hF4
      have gR9 := g79.off gR4 hR4
      have hF9 := g79.at0 hF4
      have hR9 := g79.at0 hR4
      by_cases hin : isort ltS (here ++ [u]) ∈ f'
      · rw [show (!decide (isort ltS (here ++ [u]) ∈ f')) = false by rw [decide_eq_true hin]; rfl]
        have es : lStep here (f', fr') u = (f', fr') := by unfold lStep; rw [if_pos hin]
        rw [es] at efr'
        exact iteF ⟨G9, f', fr', vsF', vsR', _, _, rfl, e6.trans g79.gg, gg9, gF9, gR9, hF9, hR9, rF4.mono g79.gg, rR4.mono g79.gg, efr', I4, hh4, hl4⟩
      · rw [show (!decide (isort ltS (here ++ [u]) ∈ f')) = true by rw [decide_eq_false hin]; rfl]
        have es : lStep here (f', fr') u = (f' ++ [isort ltS (here ++ [u])], fr' ++ [isort ltS (here ++ [u])]) := by unfold lStep; rw [if_neg hin]
        rw [es] at efr' st
        refine iteT ?_
        have few4 : f'.length ≤ 2 ^ bk.length := I4.few
        have few0 : f.length ≤ 2 ^ bk.length := I0.few
        have wl : vsF'.length = f'.length := by have := rF4.len; rw [List.length_map] at this; exact this.symm
        have wr : vsR'.length = fr'.length := by have := rR4.len; rw [List.length_map] at this; exact this.symm
        have hm' := hm
        rw [List.length_append, List.length_singleton] at hm'
        refine s_append (i := 1) rfl (gd_var (i := 5) (d := tS (isort ltS (here ++ [u]))) rfl (r5.mono g9.gg)) gg9.gh hF9 (by omega) fun v10 G10 H10 g10 r10 hF10 => ?_
        have gg10 := (gg9.trans g10).put (p := F0) (o := .lst (vsF' ++ [v10])) (.inl hFH) (g10.off gF9 hF9)
        have hR10 : (upd H10 F0 (.lst (vsF' ++ [v10]))) R0 = some (.lst vsR') := by rw [upd_ne (Ne.symm neFR)]; exact g10.at0 hR9
        refine s_append (i := 2) rfl (gd_var (i := 5) (d := tS (isort ltS (here ++ [u]))) rfl (r5.mono (g9.gg.trans g10.gg))) gg10.gh hR10 (by omega) fun v11 G11 H11 g11 r11 hR11 => ?_
        have gg11 := (gg10.trans g11).put (p := R0) (o := .lst (vsR' ++ [v11])) (.inl hRH) (g11.off (g10.off gR9 hR9) hR10)
        refine ⟨G11, _, _, vsF' ++ [v10], vsR' ++ [v11], _, _, rfl, e6.trans (g79.gg.trans (g10.gg.trans g11.gg)), gg11, ?_, ?_, ?_, upd_same, ?_, ?_, efr', st.1, st.2.1, ?_⟩
        · exact g11.off (o := .lst (vsF' ++ [v10])) (g10.off gF9 hF9) upd_same
        · exact g11.off (g10.off gR9 hR9) hR10
        · rw [upd_ne neFR]; exact g11.at0 upd_same
        · rw [List.map_append]
          exact ((rF4.mono g79.gg).mono (g10.gg.trans g11.gg)).append (.one (r10.mono g11.gg))
        · rw [List.map_append]
          exact ((rR4.mono g79.gg).mono (g10.gg.trans g11.gg)).append (.one r11)
        · have := st.2.2
          simp only at this
          omega
    · rintro σ'' G'' H'' ⟨f', fr', vsF', vsR', h4', h5', rfl, e6, gg, gF4, gR4, hF4, hR4, rF4, rR4, efr, I4, hh4, hl4⟩
      rw [List.take_length] at efr
      rw [List.length_append, List.length_singleton] at hm
      exact ⟨m, Nat.lt_succ_self m, G'', f', fr', vsF', vsR', _, _, _, rfl, gg, gF4, gR4, hF4, hR4, rF4, rR4, I4, by rw [← hs', ← efr], by omega, by omega⟩
end
end Up

/-! text Up16 -/
set_option Elab.async false
set_option linter.all false
set_option maxRecDepth 100000
set_option maxHeartbeats 4000000
/-! the law's own defs: serves, lists -/
namespace Up
open PySem PySem.Spec PyProof.Rows L2 UpS
theorem kit_tt : kitB "tuple" "tuple" = some true := by decide +kernel
theorem kit_tl : kitB "tuple" "list" = some false := by decide +kernel
theorem kit_lt : kitB "list" "tuple" = some false := by decide +kernel
theorem kit_ll : kitB "list" "list" = some true := by decide +kernel
theorem fold_inv {ns : T1} : ∀ {rolls found : T2}, RInv ns found → (∀ l ∈ rolls, ∀ x ∈ l, x ∈ ns) → RInv ns (rolls.foldl rStep found)
  | [], _, I, _ => I
  | l :: rolls, F, I, h => fold_inv (rolls := rolls) (found := rStep F l) (I.step (h l List.mem_cons_self)) fun m hm => h m (List.mem_cons_of_mem _ hm)
theorem read_inv {ns : T1} {rolls : T2} (h : ∀ l ∈ rolls, ∀ x ∈ l, x ∈ ns) : RInv ns (readM rolls) := fold_inv (.start ns) h
theorem lloop_inv {b : Bk} : ∀ (n : Nat) (st : T2 × T2), LInv b st → ∀ t ∈ lLoop b n st, ∀ x ∈ t, x ∈ names b
  | 0, st, I, t, ht => (I.at_ t ht).2
  | n + 1, (f, fr), I, t, ht => by
    rcases List.eq_nil_or_concat fr with rfl | ⟨fr0, here, rfl⟩
    · exact (I.at_ t ht).2
    · simp only [List.concat_eq_append] at I ht
      have hh : here ∈ f := I.fr here (List.mem_append_right _ (List.mem_singleton.mpr rfl))
      have I0 : LInv b (f, fr0) := ⟨I.nd, I.at_, fun t ht => I.fr t (List.mem_append_left _ ht)⟩
      have key : ∀ (l : T1) (st : T2 × T2), (∀ u ∈ l, u ∈ names b ∧ u ∉ here) → LInv b st → here ∈ st.1 → LInv b (l.foldl (lStep here) st) := by
        intro l
        induction l with
        | nil => intro st _ I _; exact I
        | cons u l ih =>
          intro st hl I hh
          obtain ⟨h1, h2⟩ := hl u List.mem_cons_self
          obtain ⟨i1, i2, _⟩ := I.step hh h1 h2
          exact ih _ (fun v hv => hl v (List.mem_cons_of_mem _ hv)) i1 i2
      unfold lLoop at ht
      simp only [List.getLast?_concat, List.dropLast_concat] at ht
      exact lloop_inv n _ (key _ _ (fun u hu => ⟨come_in b here u hu, come_out b here u hu⟩) I0 hh) t ht
theorem stands_in {b : Bk} : ∀ t ∈ standsM b, ∀ x ∈ t, x ∈ names b := fun t ht => by
  unfold standsM at ht
  exact lloop_inv _ _ (.start b) t (mem_isort.mp ht)
section
variable {P : Program} {w : World} {K : PySem.W.Frag} {mg : Str → Option Value} {base : Heap}
def fServes : List D → D → Prop := fun ds d => ∃ (b : Bk) (rolls : T2), ds = [bkT b, tT rolls] ∧ Sm b ∧ okB b = true ∧ b.length ≤ 5 ∧ (∀ l ∈ rolls, l.Nodup ∧ ∀ x ∈ l, x ∈ names b) ∧ d = .bl (decide (readM rolls = standsM b))
theorem ok_Lserves (M : Mo mg) (h : Df K mg "_law_serves" s_Lserves p_Lserves) (hR : At P w K mg base "_law_read" s_Lread p_Lread 1 (spD 1 fRead)) (hS : At P w K mg base "_law_stands" s_Lstands p_Lstands 2 (spD 1 fStands)) : At P w K mg base "_law_serves" s_Lserves p_Lserves 3 (spD 2 fServes) := by
  obtain ⟨f_Lread, fd_Lread, F_Lread, b_Lread, g_Lread, G_Lread⟩ := hR
  obtain ⟨f_Lstands, fd_Lstands, F_Lstands, b_Lstands, g_Lstands, G_Lstands⟩ := hS
  obtain ⟨f, fd, F, b, g⟩ := h
  refine ⟨f, fd, F, b, g, F.ok c_Lserves (fun vs H Q E h => h.1) (fun cdv A outer s H vs Q E hr h => ?_)⟩
  obtain ⟨_, ds, d, G, e, r, ⟨bk, rolls, rfl, S, ok, h5, hro, rfl⟩, q⟩ := h
  obtain ⟨v0, v1, rfl, r0, r1⟩ := r.i2
  refine ⟨_, (pss_cons
    (ps_set (i := 2) c_Lserves.nd rfl (by first | exact .inl rfl | exact .inr rfl) (pe_lc (own := [("_law_own", 4), ("_law_wants", 5)]) rfl c_Lserves.nd (k_seq K (pv 0)) (blkOk_by (by kernel_rfl)) (fun _ _ _ _ _ => (k_pair K (pgs_cons (pg_name (i := 4) c_Lserves.nd rfl (by first | exact .inl rfl | exact .inr rfl)) (pgs_cons (pg_name (i := 5) c_Lserves.nd rfl (by first | exact .inl rfl | exact .inr rfl)) pgs_nil)))) (fun _ _ _ _ _ => pts_nil) (fun _ _ _ _ _ => (pv 4))))
    (pss_cons
    (ps_for PassesOwn.never rfl (k_seq K (pv 1)) (pg_name (i := 3) c_Lserves.nd rfl (by first | exact .inl rfl | exact .inr rfl)) (pss_cons
        (ps_if (PW.pt (pw_or (pt_not (pt_val (pe_callB (k_isi K) (by rfl) M.isinstance_ PyProof.Rows.boot_isinstance (pa_cons (pv 3) (pa_cons (pe_bltn (v := .ty "tuple") (by rfl) M.tuple_ PyProof.Rows.boot_tuple rfl) pa_nil))))) (pw_or1 (pt_cmpR (k_neD K hr.units) (pe_lc (own := [("_law_own", 4)]) rfl c_Lserves.nd (k_seq K (pv 3)) (blkOk_by (by kernel_rfl)) (fun _ _ _ _ _ => (pg_name (i := 4) c_Lserves.nd rfl (by first | exact .inl rfl | exact .inr rfl))) (fun _ _ _ _ _ => (pts_one (pt_cmpR (k_notIn K) (pv 4) (pv 2) (by rfl)))) (fun _ _ _ _ _ => (pv 4))) (pe_lst pa_nil) (nomark _))))) (pss_one
            (ps_ret pe_bl)) pss_nil)
        (pss_one
        (ps_if (pt_cmpR op_ne (pe_callB (k_lenA K w) (by rfl) M.len_ PySem.boot_len (pa_cons (pe_callTy (k_set K w hr.units) (by rfl) M.set_ PyProof.Rows.boot_set (pa_cons (pv 3) pa_nil)) pa_nil)) (pe_callB (k_len K) (by rfl) M.len_ PySem.boot_len (pa_cons (pv 3) pa_nil)) (nomark _)) (pss_one
            (ps_ret pe_bl)) pss_nil))))
    (pss_one
    (ps_ret (pe_cmpR (k_eqD K hr.units) (pe_call G_Lread (hr.mono (by omega)) (by rfl) g_Lread F_Lread.kp b_Lread .nil pass0 (pa_cons (pv 1) pa_nil)) (pe_call G_Lstands (hr.mono (by omega)) (by rfl) g_Lstands F_Lstands.kp b_Lstands .nil pass0 (pa_cons (pv 0) pa_nil)) (nomark _)))))), ?_⟩
  have okn := okB_names ok
  have nlen : (names bk).length = bk.length := by unfold names; rw [List.length_map]
  have lc := gl_lc (p := fun _ => true) (f := fun p : Str × T2 => D.str p.1) (xs := bk) (e := bkItem false) (gi_seqF (K := K) (gd_var (σ := start n_Lserves [v0, v1]) (i := 0) rfl r0)) (by omega) (vs := [4, 5]) (g := gPair K (gCons (gName 4) (gCons (gName 5) gNil))) (tt := tYes) (te := tVar 4) (fun p _ G' H' v e1 e2 rp Q q => tg_Bk (l := false) rp e2 fun a b ra rb => q _ rfl (fun H e Q q => q _ _ (.refl e)) fun _ => gd_var rfl ra)
  rw [List.filter_eq_self.mpr (fun _ _ => rfl), strs_map] at lc
  refine sq_asg lc.gd e fun v2 G1 H1 g1 r2 => ?_
  refine sd_for (gi_seqT (gd_var (i := 1) rfl (r1.mono g1.gg))) g1.gh fun G2 H2 g2 => ?_
  have gg2 := g1.trans g2
  refine ⟨fun i σ' G' H' => ∃ h3, σ' = [some v0, some v1, some v2, h3, none, none] ∧ Gr N0 G H G' H' ∧ Ex G2 G', ⟨none, rfl, gg2, .refl _⟩, ?_, ?_, ?_⟩
  · rintro i σ' G' H' ⟨h3, rfl, gg, e2⟩
    exact ⟨e2, gg.gh⟩
  · rintro i dd σ' G' H' v3 G3 H3 hdd ⟨h3, rfl, gg, e2⟩ g3 r3
    obtain ⟨line, ho, rfl⟩ := mem_seq hdd
    obtain ⟨hnd, hln⟩ := hro line (List.mem_of_getElem? ho)
    have hll := lenLe hnd hln
    have gg3 := gg.trans g3
    have r2' : Rp G3 (lS (names bk)) v2 := r2.mono (g2.gg.trans (e2.trans g3.gg))
    have okl : okS line = true := okT_mem (okT_of (ts := [line]) okn fun t ht => by rw [List.mem_singleton.mp ht]; exact hln) (List.mem_singleton.mpr rfl)
    have emp : (line.filter fun o => !decide (o ∈ names bk)).isEmpty = true := by
      rw [isEmpty_filter, any_not]
      exact List.all_eq_true.mpr fun x hx => decide_eq_true (hln x hx)
    refine sq_if (b := false) (gt_is (gt_or (gt_not (gt_test (gd_isi1 (b := true) (gd_var (i := 3) rfl r3) rfl kit_tt))) fun _ => gt_B (gd_neNilS (xs := line.filter fun o => !decide (o ∈ names bk)) (gl_lc1 (j := 4) (xs := line) (e := .str) (f := .str) (gi_seqT (gd_var (i := 3) rfl r3)) (by omega) (fun _ => rfl)
        (fun o ho G4 v4 e4 ro => gt_B (gd_inT1 (neg := true) (gd_var (i := 4) rfl ro) (gd_var (i := 2) rfl (r2'.mono e4)) (.inr rfl)))
        (fun o ho _ G4 v4 e4 ro => gd_var (i := 4) rfl ro)) (okS_filter okl))) (by rw [emp]; rfl)) gg3.gh (fun z => nomatch z) fun _ G4 H4 g4 => ?_
    have gg4 := gg3.trans g4
    refine s_if (b := false) (gt_is (gt_B (gd_op (gd_lenSet (xs := line) (gd_var (i := 3) rfl (r3.mono g4.gg)) (by omega)) (gd_cb (ga_one (gd_var (i := 3) rfl (r3.mono g4.gg))) rb_lenT) ro_neI)) (by rw [dedup_self hnd, List.length_map]; simp)) gg4.gh (fun z => nomatch z) fun _ G5 H5 g5 => ?_
    exact ⟨G5, _, rfl, gg4.trans g5, e2.trans (g3.gg.trans (g4.gg.trans g5.gg))⟩
  · rintro σ' G' H' ⟨h3, rfl, gg, e2⟩
    have e' := gg.gg
    refine gd_op (gd_call (ga_one (gd_var (i := 1) rfl (r1.mono e'))) rfl ⟨rolls, names bk, rfl, by omega, fun l hl => ⟨by have := lenLe (hro l hl).1 (hro l hl).2; omega, (hro l hl).2⟩, rfl⟩) (gd_call (ga_one (gd_var (i := 0) rfl (r0.mono e'))) rfl ⟨bk, rfl, S, ok, rfl⟩)
      (ro_eqTs (okT_of okn fun t ht => ((read_inv fun l hl => (hro l hl).2).at_ t ht).2) (okT_of okn stands_in)) H' gg.gh _ fun v G6 H6 g6 r6 => q v G6 H6 (gg.trans g6) r6
/-! ### lists -/
def lstD : Nat → D → D
  | 0, d => d
  | n + 1, .tup ds => .lst (ds.map (lstD n))
  | n + 1, .ftup ds => .lst (ds.map (lstD n))
  | n + 1, .lst ds => .lst (ds.map (lstD n))
  | _ + 1, d => d
def ShF : Nat → D → Prop
  | 0, _ => False
  | n + 1, .tup ds => ds.length ≤ 1000 ∧ ∀ d ∈ ds, ShF n d
  | n + 1, .ftup ds => ds.length ≤ 1000 ∧ ∀ d ∈ ds, ShF n d
  | n + 1, .lst ds => ds.length ≤ 1000 ∧ ∀ d ∈ ds, ShF n d
  | _ + 1, .str _ => True
  | _ + 1, _ => False
def fLists (n : Nat) : List D → D → Prop := fun ds d => ∃ x, ds = [x] ∧ ShF n x ∧ d = lstD n x
theorem ok_Llists (M : Mo mg) (h : Df K mg "_law_lists" s_Llists p_Llists) : ∀ n, At P w K mg base "_law_lists" s_Llists p_Llists n (spD 1 (fLists n))
  | 0 => by
    obtain ⟨f, fd, F, b, g⟩ := h
    exact ⟨f, fd, F, b, g, fun vs H Q E ⟨_, _, _, _, _, _, ⟨_, _, hs, _⟩, _⟩ => hs.elim, fun _ _ _ _ _ _ _ _ _ _ _ _ _ ⟨_, _, _, _, _, _, ⟨_, _, hs, _⟩, _⟩ => hs.elim⟩
  | n + 1 => by
    obtain ⟨f_Llists, fd_Llists, F_Llists, b_Llists, g_Llists, G_Llists⟩ := ok_Llists M h n
    refine ⟨f_Llists, fd_Llists, F_Llists, b_Llists, g_Llists, F_Llists.ok c_Llists (fun vs H Q E h => h.1) (fun cdv A outer s H vs Q E hr h => ?_)⟩
    obtain ⟨_, ds, d, G, e, r, ⟨x, rfl, hs, rfl⟩, q⟩ := h
    obtain ⟨v0, rfl, r0⟩ := r.i1
    refine ⟨_, (pss_one
    (ps_ret (pe_ifExp (pt_val (pe_callB (k_isi K) (by rfl) M.isinstance_ PyProof.Rows.boot_isinstance (pa_cons (pv 0) (pa_cons (pe_tup (pa_cons (pe_bltn (v := .ty "list") (by rfl) M.list_ PyProof.Rows.boot_list rfl) (pa_cons (pe_bltn (v := .ty "tuple") (by rfl) M.tuple_ PyProof.Rows.boot_tuple rfl) pa_nil))) pa_nil)))) (pe_lc (own := [("_law_bit", 1)]) rfl c_Llists.nd (k_seq K (pv 0)) (blkOk_by (by kernel_rfl)) (fun _ _ _ _ _ => (pg_name (i := 1) c_Llists.nd rfl (by first | exact .inl rfl | exact .inr rfl))) (fun _ _ _ _ _ => pts_nil) (fun _ _ _ _ _ => (pe_call G_Llists (hr.mono (by omega)) (by rfl) g_Llists F_Llists.kp b_Llists .nil pass0 (pa_cons (pv 1) pa_nil)))) (pv 0)))), ?_⟩
    have g0 : GD (tVar 0) (start n_Llists [v0]) G x := gd_var (i := 0) rfl r0
    have key : ∀ es : List D, es.length ≤ 1000 → (∀ d ∈ es, ShF n d) → GI (iSeq K (tVar 0)) (start n_Llists [v0]) G es → GD (tLc (iSeq K (tVar 0)) (gName 1) tYes (tCall (spD 1 (fLists n)) [] E0 (tCons (tVar 1) tNil)) [1]) (start n_Llists [v0]) G (.lst (es.map (lstD n))) := fun es hl hs gi =>
      (gl_lc0 (xs := es) (e := id) (f := lstD n) (by rw [List.map_id]; exact gi) (by omega) (fun _ => rfl) fun y hy G' v e' ry => gd_call (ga_one (gd_var rfl ry)) rfl ⟨y, rfl, hs y hy, rfl⟩).gd
    cases x with
    | tup es => exact gd_if (gt_test (gd_isi2 g0 rfl (kits))) (fun _ => key es hs.1 hs.2 (gi_seqT g0)) (fun z => nomatch z) H e Q q
    | ftup es => exact gd_if (gt_test (gd_isi2 g0 rfl (kits))) (fun _ => key es hs.1 hs.2 (gi_seqF g0)) (fun z => nomatch z) H e Q q
    | lst es => exact gd_if (gt_test (gd_isi2 g0 rfl (kitsl))) (fun _ => key es hs.1 hs.2 (gi_seqL g0)) (fun z => nomatch z) H e Q q
    | str y => exact gd_if (gt_test (gd_isi2 g0 rfl (kitss))) (fun z => nomatch z) (fun _ => g0) H e Q q
    | _ => exact hs.elim
theorem lst_strs (n : T1) : (n.map D.str).map (lstD 1) = n.map D.str := by rw [List.map_map]; exact List.map_congr_left fun _ _ => rfl
theorem lists_bk {b : Bk} (S : Sm b) : ShF 5 (bkT b) ∧ lstD 5 (bkT b) = bkL b := by
  have len := S.len
  refine ⟨⟨by rw [List.length_map]; omega, fun d hd => ?_⟩, ?_⟩
  · obtain ⟨p, hp, rfl⟩ := List.mem_map.mp hd
    refine ⟨by show 2 ≤ 1000; omega, fun d hd => ?_⟩
    rcases List.mem_cons.mp hd with rfl | hd
    · trivial
    · obtain rfl := List.mem_singleton.mp hd
      refine ⟨by rw [List.length_map]; have := S.nl p hp; omega, fun d hd => ?_⟩
      obtain ⟨n, hn, rfl⟩ := List.mem_map.mp hd
      refine ⟨by rw [List.length_map]; have := S.ll p hp n hn; omega, fun d hd => ?_⟩
      obtain ⟨x, _, rfl⟩ := List.mem_map.mp hd
      trivial
  · show D.lst ((b.map _).map (lstD 4)) = _
    rw [List.map_map]
    refine congrArg D.lst (List.map_congr_left fun p _ => ?_)
    show D.lst [.str p.1, .lst ((p.2.map tS).map (lstD 2))] = .lst [.str p.1, lT p.2]
    rw [List.map_map]
    have : p.2.map (lstD 2 ∘ tS) = p.2.map lS := List.map_congr_left fun n _ => by
      show D.lst ((n.map D.str).map (lstD 1)) = _
      rw [lst_strs]; rfl
    rw [this]; rfl
/-! ### same -/
def ShS : Nat → D → Prop
  | 0, _ => False
  | n + 1, .tup ds => ds.length ≤ 1000 ∧ ∀ d ∈ ds, ShS n d
  | n + 1, .lst ds => ds.length ≤ 1000 ∧ ∀ d ∈ ds, ShS n d
  | _ + 1, .str _ => True
  | _ + 1, .int _ => True
  | _ + 1, .bl _ => True
  | _ + 1, _ => False
def fSame (n : Nat) : List D → D → Prop := fun ds d => ∃ x, ds = [x, x] ∧ ShS n x ∧ d = .bl true
theorem zip_same : ∀ es : List D, zipD es es = es.map fun x => .tup [x, x]
  | [] => rfl
  | x :: es => by
    show _ :: zipD es es = _
    rw [zip_same es]; rfl
theorem kit_b (K : PySem.W.Frag) : PySem.W.kitAny K (.type "bool") [.type "bool", .type "str"] = some true := kit2 (a := true) (b := false) (by decide +kernel) (by decide +kernel) K
theorem kit_s (K : PySem.W.Frag) : PySem.W.kitAny K (.type "str") [.type "bool", .type "str"] = some true := kit2 (a := false) (b := true) (by decide +kernel) (by decide +kernel) K
theorem kit_i (K : PySem.W.Frag) : PySem.W.kitAny K (.type "int") [.type "bool", .type "str"] = some false := kit2 (a := false) (b := false) (by decide +kernel) (by decide +kernel) K
theorem kitsb (K : PySem.W.Frag) : PySem.W.kitAny K (.type "bool") [.type "list", .type "tuple"] = some false := kit2 (a := false) (b := false) (by decide +kernel) (by decide +kernel) K
theorem kitsi (K : PySem.W.Frag) : PySem.W.kitAny K (.type "int") [.type "list", .type "tuple"] = some false := kit2 (a := false) (b := false) (by decide +kernel) (by decide +kernel) K
end
end Up

/-! text Up17 -/
set_option Elab.async false
set_option linter.all false
set_option maxRecDepth 100000
set_option maxHeartbeats 4000000
/-! the law's own defs: same -/
namespace Up
open PySem PySem.Spec PyProof.Rows L2 UpS
section
variable {σ : L2.St} {G : Hp} {te tb : TE} {d : D}
theorem gd_isNo (h : GD te σ G d) (n : ∀ G v, Rp G d v → v ≠ .non) : GT (tTest (tOp (fun x y H Q => y = .non ∧ Q (.bl (decide (x = .non))) H) te (tC .non))) σ G false := fun H e Q q =>
  h H e _ fun v G1 H1 g r => ⟨rfl, _, by rw [decide_eq_false (n _ _ r)], q G1 H1 g⟩
end
section
variable {P : Program} {w : World} {K : PySem.W.Frag} {mg : Str → Option Value} {base : Heap}
theorem ok_Lsame (M : Mo mg) (h : Df K mg "_law_same" s_Lsame p_Lsame) : ∀ n, At P w K mg base "_law_same" s_Lsame p_Lsame n (spD 2 (fSame n))
  | 0 => by
    obtain ⟨f, fd, F, b, g⟩ := h
    exact ⟨f, fd, F, b, g, fun vs H Q E ⟨_, _, _, _, _, _, ⟨_, _, hs, _⟩, _⟩ => hs.elim, fun _ _ _ _ _ _ _ _ _ _ _ _ _ ⟨_, _, _, _, _, _, ⟨_, _, hs, _⟩, _⟩ => hs.elim⟩
  | n + 1 => by
    obtain ⟨f_Lsame, fd_Lsame, F_Lsame, b_Lsame, g_Lsame, G_Lsame⟩ := ok_Lsame M h n
    refine ⟨f_Lsame, fd_Lsame, F_Lsame, b_Lsame, g_Lsame, F_Lsame.ok c_Lsame (fun vs H Q E h => h.1) (fun cdv A outer s H vs Q E hr h => ?_)⟩
    obtain ⟨_, ds, d, G, e, r, ⟨x, rfl, hs, rfl⟩, q⟩ := h
    obtain ⟨v0, v1, rfl, r0, r1⟩ := r.i2
    refine ⟨_, (pss_cons
    (ps_if (pt_val (pe_callB (k_isi K) (by rfl) M.isinstance_ PyProof.Rows.boot_isinstance (pa_cons (pv 1) (pa_cons (pe_tup (pa_cons (pe_bltn (v := .ty "list") (by rfl) M.list_ PyProof.Rows.boot_list rfl) (pa_cons (pe_bltn (v := .ty "tuple") (by rfl) M.tuple_ PyProof.Rows.boot_tuple rfl) pa_nil))) pa_nil)))) (pss_cons
        (ps_if (PW.pt (pw_or (pt_cmpR op_ne (pe_callB (k_isi K) (by rfl) M.isinstance_ PyProof.Rows.boot_isinstance (pa_cons (pv 0) (pa_cons (pe_bltn (v := .ty "list") (by rfl) M.list_ PyProof.Rows.boot_list rfl) pa_nil))) (pe_callB (k_isi K) (by rfl) M.isinstance_ PyProof.Rows.boot_isinstance (pa_cons (pv 1) (pa_cons (pe_bltn (v := .ty "list") (by rfl) M.list_ PyProof.Rows.boot_list rfl) pa_nil))) (nomark _)) (pw_or1 (pt_cmpR op_ne (pe_callB (k_isi K) (by rfl) M.isinstance_ PyProof.Rows.boot_isinstance (pa_cons (pv 0) (pa_cons (pe_bltn (v := .ty "tuple") (by rfl) M.tuple_ PyProof.Rows.boot_tuple rfl) pa_nil))) (pe_callB (k_isi K) (by rfl) M.isinstance_ PyProof.Rows.boot_isinstance (pa_cons (pv 1) (pa_cons (pe_bltn (v := .ty "tuple") (by rfl) M.tuple_ PyProof.Rows.boot_tuple rfl) pa_nil))) (nomark _))))) (pss_one
            (ps_ret pe_bl)) pss_nil)
        (pss_one
        (ps_ret (pe_and (pe_cmpR op_eq (pe_callB (k_len K) (by rfl) M.len_ PySem.boot_len (pa_cons (pv 0) pa_nil)) (pe_callB (k_len K) (by rfl) M.len_ PySem.boot_len (pa_cons (pv 1) pa_nil)) (nomark _)) (pe_one (pe_callB (k_all K) (by rfl) M.all_ PyProof.Rows.boot_all (pa_cons (pe_lc (own := [("_law_mine_so", 2), ("_law_own", 3)]) rfl c_Lsame.nd (k_zipA K (by rfl) M.zip_ (pa_cons (pv 0) (pa_cons (pv 1) pa_nil))) (blkOk_by (by kernel_rfl)) (fun _ _ _ _ _ => (k_tup2 K (pgs_cons (pg_name (i := 2) c_Lsame.nd rfl (by first | exact .inl rfl | exact .inr rfl)) (pgs_cons (pg_name (i := 3) c_Lsame.nd rfl (by first | exact .inl rfl | exact .inr rfl)) pgs_nil)))) (fun _ _ _ _ _ => pts_nil) (fun _ _ _ _ _ => (pe_call G_Lsame (hr.mono (by omega)) (by rfl) g_Lsame F_Lsame.kp b_Lsame .nil pass0 (pa_cons (pv 2) (pa_cons (pv 3) pa_nil))))) pa_nil))))))) pss_nil)
    (pss_cons
    (ps_if (pt_cmpR op_isN (pv 1) pe_non (nomark _)) (pss_one
        (ps_ret (pe_cmpR op_isN (pv 0) pe_non (nomark _)))) pss_nil)
    (pss_cons
    (ps_if (pt_val (pe_callB (k_isi K) (by rfl) M.isinstance_ PyProof.Rows.boot_isinstance (pa_cons (pv 1) (pa_cons (pe_tup (pa_cons (pe_bltn (v := .ty "bool") (by rfl) M.bool_ PyProof.Rows.boot_bool rfl) (pa_cons (pe_bltn (v := .ty "str") (by rfl) M.str_ PyProof.Rows.boot_str rfl) pa_nil))) pa_nil)))) (pss_one
        (ps_ret (pe_and (pe_cmpR op_eq (pv 0) (pv 1) (nomark _)) (pe_one (pe_cmpR op_eq (pe_callB (k_isi K) (by rfl) M.isinstance_ PyProof.Rows.boot_isinstance (pa_cons (pv 0) (pa_cons (pe_bltn (v := .ty "bool") (by rfl) M.bool_ PyProof.Rows.boot_bool rfl) pa_nil))) (pe_callB (k_isi K) (by rfl) M.isinstance_ PyProof.Rows.boot_isinstance (pa_cons (pv 1) (pa_cons (pe_bltn (v := .ty "bool") (by rfl) M.bool_ PyProof.Rows.boot_bool rfl) pa_nil))) (nomark _)))))) pss_nil)
    (pss_one
    (ps_ret (pe_and (pe_callB (k_isi K) (by rfl) M.isinstance_ PyProof.Rows.boot_isinstance (pa_cons (pv 0) (pa_cons (pe_bltn (v := .ty "int") (by rfl) M.int_ PyProof.Rows.boot_int rfl) pa_nil))) (pe_and (pe_not (pe_callB (k_isi K) (by rfl) M.isinstance_ PyProof.Rows.boot_isinstance (pa_cons (pv 0) (pa_cons (pe_bltn (v := .ty "bool") (by rfl) M.bool_ PyProof.Rows.boot_bool rfl) pa_nil)))) (pe_one (pe_cmpR op_eq (pv 0) (pv 1) (nomark _)))))))))), ?_⟩
    have seq : ∀ (es : List D) (G : Hp), es.length ≤ 1000 → (∀ d ∈ es, ShS n d) → GI (RZ.iZipA K (tCons (tVar 0) (tCons (tVar 1) tNil))) (start n_Lsame [v0, v1]) G (zipD es es) →
        GD (tCB (rAll K) (tCons (tLc (RZ.iZipA K (tCons (tVar 0) (tCons (tVar 1) tNil))) (gTup K 2 (gCons (gName 2) (gCons (gName 3) gNil))) tYes (tCall (spD 2 (fSame n)) [] E0 (tCons (tVar 2) (tCons (tVar 3) tNil))) [2, 3]) tNil)) (start n_Lsame [v0, v1]) G (.bl true) := fun es G hl hs gi => by
      rw [zip_same] at gi
      have lc := gl_lc (p := fun _ => true) (f := fun _ : D => D.bl true) (xs := es) (vs := [2, 3]) (tt := tYes) (te := tCall (spD 2 (fSame n)) [] E0 (tCons (tVar 2) (tCons (tVar 3) tNil))) (g := gTup K 2 (gCons (gName 2) (gCons (gName 3) gNil))) gi (by omega)
        (fun y hy G' H' v e1 e2 rp Q q => tg_tup2 rp e2 fun a b ra rb => q _ rfl (fun H e Q q => q _ _ (.refl e)) fun _ => gd_call (ga_two (gd_var (i := 2) rfl ra) (gd_var (i := 3) rfl rb)) rfl ⟨y, rfl, hs y hy, rfl⟩)
      rw [List.filter_eq_self.mpr (fun _ _ => rfl)] at lc
      have := gd_allm (K := K) (f := fun _ : D => true) (ga_one lc.gd)
      exact gd_is this (by rw [List.all_eq_true.mpr (fun _ _ => rfl)])
    have g0 : ∀ {G'}, Ex G G' → GD (tVar 0) (start n_Lsame [v0, v1]) G' x := fun e => gd_var (i := 0) rfl (r0.mono e)
    have g1 : ∀ {G'}, Ex G G' → GD (tVar 1) (start n_Lsame [v0, v1]) G' x := fun e => gd_var (i := 1) rfl (r1.mono e)
    cases x with
    | tup es =>
      refine sq_if (b := true) (gt_test (gd_isi2 (g1 (.refl _)) rfl (kits))) e (fun _ G2 H2 g2 => ?_) (fun z => nomatch z)
      refine sq_if (b := false) (gt_is (gt_or (gt_B (gd_op (gd_isi1 (g0 g2.gg) rfl kit_tl) (gd_isi1 (g1 g2.gg) rfl kit_tl) ro_neB)) fun _ => gt_B (gd_op (gd_isi1 (g0 g2.gg) rfl kit_tt) (gd_isi1 (g1 g2.gg) rfl kit_tt) ro_neB)) rfl) g2.gh (fun z => nomatch z) fun _ G3 H3 g3 => ?_
      have g23 := g2.trans g3
      exact gd_is (gd_and (gd_op (gd_cb (ga_one (g0 g23.gg)) rb_lenT) (gd_cb (ga_one (g1 g23.gg)) rb_lenT) ro_eqI) fun _ => seq es G3 hs.1 hs.2 (gi_zip (.inr ⟨rfl, rfl⟩) (ga_two (g0 g23.gg) (g1 g23.gg)))) (by rw [decide_eq_true rfl]; rfl) H3 g3.gh _ fun v G4 H4 g4 r4 => q v G4 H4 (g23.trans g4) r4
    | lst es =>
      refine sq_if (b := true) (gt_test (gd_isi2 (g1 (.refl _)) rfl (kitsl))) e (fun _ G2 H2 g2 => ?_) (fun z => nomatch z)
      refine sq_if (b := false) (gt_is (gt_or (gt_B (gd_op (gd_isi1 (g0 g2.gg) rfl kit_ll) (gd_isi1 (g1 g2.gg) rfl kit_ll) ro_neB)) fun _ => gt_B (gd_op (gd_isi1 (g0 g2.gg) rfl kit_lt) (gd_isi1 (g1 g2.gg) rfl kit_lt) ro_neB)) rfl) g2.gh (fun z => nomatch z) fun _ G3 H3 g3 => ?_
      have g23 := g2.trans g3
      exact gd_is (gd_and (gd_op (gd_cb (ga_one (g0 g23.gg)) rb_lenL) (gd_cb (ga_one (g1 g23.gg)) rb_lenL) ro_eqI) fun _ => seq es G3 hs.1 hs.2 (gi_zip (.inl ⟨rfl, rfl⟩) (ga_two (g0 g23.gg) (g1 g23.gg)))) (by rw [decide_eq_true rfl]; rfl) H3 g3.gh _ fun v G4 H4 g4 r4 => q v G4 H4 (g23.trans g4) r4
    | str y =>
      refine sq_if (b := false) (gt_test (gd_isi2 (g1 (.refl _)) rfl (kitss))) e (fun z => nomatch z) fun _ G2 H2 g2 => ?_
      refine sq_if (b := false) (gd_isNo (g1 g2.gg) fun G v r => by cases r; intro z; cases z) g2.gh (fun z => nomatch z) fun _ G3 H3 g3 => ?_
      have g23 := g2.trans g3
      refine sq_if (b := true) (gt_test (gd_isi2 (g1 g23.gg) rfl (kit_s))) g3.gh (fun _ G4 H4 g4 => ?_) (fun z => nomatch z)
      have g24 := g23.trans g4
      exact gd_is (gd_and (gd_op (g0 g24.gg) (g1 g24.gg) ro_eqS) fun _ => gd_op (gd_isi1 (b := false) (g0 g24.gg) rfl (by show kitB "str" "bool" = _; decide +kernel)) (gd_isi1 (b := false) (g1 g24.gg) rfl (by show kitB "str" "bool" = _; decide +kernel)) ro_eqB) (by rw [decide_eq_true rfl]; rfl) H4 g4.gh _ fun v G5 H5 g5 r5 => q v G5 H5 (g24.trans g5) r5
    | bl y =>
      refine sq_if (b := false) (gt_test (gd_isi2 (g1 (.refl _)) rfl (kitsb))) e (fun z => nomatch z) fun _ G2 H2 g2 => ?_
      refine sq_if (b := false) (gd_isNo (g1 g2.gg) fun G v r => by cases r; intro z; cases z) g2.gh (fun z => nomatch z) fun _ G3 H3 g3 => ?_
      have g23 := g2.trans g3
      refine sq_if (b := true) (gt_test (gd_isi2 (g1 g23.gg) rfl (kit_b))) g3.gh (fun _ G4 H4 g4 => ?_) (fun z => nomatch z)
      have g24 := g23.trans g4
      exact gd_is (gd_and (gd_op (g0 g24.gg) (g1 g24.gg) ro_eqB) fun _ => gd_op (gd_isi1 (b := true) (g0 g24.gg) rfl (by show kitB "bool" "bool" = _; decide +kernel)) (gd_isi1 (b := true) (g1 g24.gg) rfl (by show kitB "bool" "bool" = _; decide +kernel)) ro_eqB) (by rw [decide_eq_true rfl]; rfl) H4 g4.gh _ fun v G5 H5 g5 r5 => q v G5 H5 (g24.trans g5) r5
    | int y =>
      refine sq_if (b := false) (gt_test (gd_isi2 (g1 (.refl _)) rfl (kitsi))) e (fun z => nomatch z) fun _ G2 H2 g2 => ?_
      refine sq_if (b := false) (gd_isNo (g1 g2.gg) fun G v r => by cases r; intro z; cases z) g2.gh (fun z => nomatch z) fun _ G3 H3 g3 => ?_
      have g23 := g2.trans g3
      refine sq_if (b := false) (gt_test (gd_isi2 (g1 g23.gg) rfl (kit_i))) g3.gh (fun z => nomatch z) fun _ G4 H4 g4 => ?_
      have g24 := g23.trans g4
      exact gd_is (gd_and (gd_isi1 (b := true) (g0 g24.gg) rfl (by show kitB "int" "int" = _; decide +kernel)) fun _ => gd_and (gd_not (gd_isi1 (b := false) (g0 g24.gg) rfl (by show kitB "int" "bool" = _; decide +kernel))) fun _ => gd_op (g0 g24.gg) (g1 g24.gg) ro_eqI) (by rw [decide_eq_true rfl]; rfl) H4 g4.gh _ fun v G5 H5 g5 r5 => q v G5 H5 (g24.trans g5) r5
    | _ => exact hs.elim
end
end Up

/-! text Up18 -/
set_option Elab.async false
set_option linter.all false
set_option maxRecDepth 100000
set_option maxHeartbeats 4000000
/-! the law's own defs: words -/
namespace Up
open PySem PySem.Spec PyProof.Rows L2 UpS
section
variable {K : PySem.W.Frag} {σ : L2.St} {G : Hp} {to te : TE} {d : D} {ds : List D}
theorem gl_split {a b : Str} (ho : GD to σ G (.str a)) (he : GD te σ G (.str b)) (hb : (b.length == 0) = false) (ha : a.length ≤ 1000) :
    GL (tM1 (fun x xs H Q => ∃ a b, x = .str a ∧ xs = [.str b] ∧ (b.length == 0) = false ∧ a.length + 2 ≤ sizeLine ∧ rNewStrs (Txt.split a b) H Q) to te) σ G ((Txt.split a b).map .str) := fun H e Q q =>
  ho H e _ fun v G1 H1 g1 r1 => by
    cases r1
    refine ⟨⟨_, rfl⟩, (he.mono g1.gg) H1 g1.gh _ fun u G2 H2 g2 r2 => ?_⟩
    cases r2
    refine ⟨a, b, rfl, rfl, hb, Nat.le_trans (by omega) (show 1002 ≤ sizeLine by decide), fun p hp => ?_⟩
    have gg := g1.trans g2
    exact q p _ G2 _ (gg.put (.inl (gg.free hp)) (gg.gh.free hp)) (gg.free hp) (gg.gh.free hp) upd_same (Rps.of_strs _)
theorem gd_tupF (h : GD te σ G (.lst ds)) : GD (tCB (rTupF K) (tCons te tNil)) σ G (.ftup ds) := fun H e Q q => h H e _ fun v G1 H1 g r => by
  cases r with
  | @lst a vs _ ha rs => exact ⟨_, _, rfl, sqL_of g.gh ha, fun o l ho hl => q _ (upd G1 l (.frz o (.tup vs))) _ (g.data hl) (.ftup upd_same ho (rs.mono (Ex.new (g.gh.free hl))))⟩
end
def farOf (far : Str) : T1 := if far = "0" then [] else Txt.split far "+"
def wordOf (own : Str) : Str × T2 := (((Txt.split own " ").head?).getD "", isort ltT ((((Txt.split own " ").drop 1).filter fun far : Str => !decide (far = "-")).map farOf))
def wordsM (s : Str) : Bk := (Txt.split s "; ").map wordOf
def wordOk (own : Str) : Bool := decide (own.length ≤ 1000) && decide ((Txt.split own " ").length ≤ 100) && !(Txt.split own " ").isEmpty && (Txt.split own " ").all fun far => decide (far.length ≤ 1000)
def wordsOk (s : Str) : Bool := decide (s.length ≤ 1000) && decide ((Txt.split s "; ").length ≤ 100) && (Txt.split s "; ").all wordOk
section
variable {P : Program} {w : World} {K : PySem.W.Frag} {mg : Str → Option Value} {base : Heap}
def fWords : List D → D → Prop := fun ds d => ∃ s, ds = [.str s] ∧ wordsOk s = true ∧ d = bkT (wordsM s)
theorem ok_Lwords (M : Mo mg) (h : Df K mg "_law_words" s_Lwords p_Lwords) : At P w K mg base "_law_words" s_Lwords p_Lwords 1 (spD 1 fWords) := by
  obtain ⟨f, fd, F, b, g⟩ := h
  refine ⟨f, fd, F, b, g, F.ok c_Lwords (fun vs H Q E h => h.1) (fun cdv A outer s H vs Q E hr h => ?_)⟩
  obtain ⟨_, ds, d, G, e, r, ⟨tx, rfl, ok, rfl⟩, q⟩ := h
  obtain ⟨v0, rfl, r0⟩ := r.i1
  refine ⟨_, (pss_cons
    (ps_set (i := 1) c_Lwords.nd rfl (by first | exact .inl rfl | exact .inr rfl) (pe_lst pa_nil))
    (pss_cons
    (ps_for PassesOwn.never rfl (k_seq K (pe_split (pv 0) pe_str)) (pg_name (i := 2) c_Lwords.nd rfl (by first | exact .inl rfl | exact .inr rfl)) (pss_cons
        (ps_set (i := 3) c_Lwords.nd rfl (by first | exact .inl rfl | exact .inr rfl) (pe_split (pv 2) pe_str))
        (pss_cons
        (ps_setLc (i := 4) (own := [("_law_far", 5)]) rfl c_Lwords.nd rfl rfl (sw_true rfl rfl rfl (by decide +kernel)) (k_seq K (pe_slice (k_slL K) (pv 3) (po_some pe_int) po_none)) (blkOk_by (by kernel_rfl)) (fun _ _ _ _ _ => (pg_name (i := 5) c_Lwords.nd rfl (by first | exact .inl rfl | exact .inr rfl))) (fun _ _ _ _ _ => (pts_one (pt_cmpR op_ne (pv 5) pe_str (nomark _)))) (fun _ _ _ _ _ => (pe_ifExp (pt_cmpR op_eq (pv 5) pe_str (nomark _)) (pe_tup pa_nil) (pe_callTy (k_tuple K) (by rfl) M.tuple_ PyProof.Rows.boot_tuple (pa_cons (pe_split (pv 5) pe_str) pa_nil)))))
        (pss_one
        (ps_expr (pe_bm PySem.F.plainAttrs_list PySem.F.slot_list_append PySem.F.type_list_append mt_append (pv 1) (pa_cons (pe_tup (pa_cons (pe_ix (k_ixL K) (pv 3) pe_int (fun _ _ => rfl)) (pa_cons (pe_callTy (k_tuple K) (by rfl) M.tuple_ PyProof.Rows.boot_tuple (pa_cons (pe_callB (k_sorted K w hr.units) (by rfl) M.sorted_ PyProof.Rows.boot_sorted (pa_cons (pv 4) pa_nil)) pa_nil)) pa_nil))) pa_nil)))))))
    (pss_one
    (ps_ret (pe_callTy (k_tupF K) (by rfl) M.tuple_ PyProof.Rows.boot_tuple (pa_cons (pv 1) pa_nil)))))), ?_⟩
  unfold wordsOk at ok
  rw [Bool.and_eq_true, Bool.and_eq_true, decide_eq_true_eq, decide_eq_true_eq] at ok
  obtain ⟨⟨ok1, ok2⟩, ok3⟩ := ok
  refine sq_asgL (gl_lst ga_nil (Nat.zero_le _)) e fun p vs G1 H1 g1 hp1 hp2 hp3 rp => ?_
  refine sd_for (gi_seqL (GL.gd (gl_split (gd_var (i := 0) rfl (r0.mono g1.gg)) (gd_c (.str "; ")) (by decide +kernel) ok1))) g1.gh fun G2 H2 g2 => ?_
  have gg2 := g1.trans g2
  rw [List.length_map]
  refine ⟨fun i σ' G' H' => ∃ h2 h3 h4 vs, σ' = [some v0, some (.ref p), h2, h3, h4, none] ∧ Gr N0 G H G' H' ∧ Ex G2 G' ∧ G' p = none ∧ H' p = some (.lst vs) ∧ Rps G' (((Txt.split tx "; ").take i).map fun own => bkItem false (wordOf own)) vs,
    ⟨none, none, none, vs, rfl, gg2, .refl _, g2.off hp2 hp3, g2.at0 hp3, rp.mono g2.gg⟩, ?_, ?_, ?_⟩
  · rintro i σ' G' H' ⟨h2, h3, h4, vs, rfl, gg, e2, _⟩
    exact ⟨e2, gg.gh⟩
  · rintro i dd σ' G' H' v2 G3 H3 hdd ⟨h2, h3, h4, vs, rfl, gg, e2, gp, hp, rv⟩ g3 r2
    obtain ⟨own, ho, rfl⟩ := mem_seq hdd
    have okw := List.all_eq_true.mp ok3 own (List.mem_of_getElem? ho)
    unfold wordOk at okw
    rw [Bool.and_eq_true, Bool.and_eq_true, Bool.and_eq_true, decide_eq_true_eq, decide_eq_true_eq] at okw
    obtain ⟨⟨⟨k1, k2⟩, k3⟩, k4⟩ := okw
    have gg3 := gg.trans g3
    refine sq_asg (d := lS (Txt.split own " ")) (GL.gd (gl_split (gd_var (i := 2) rfl r2) (gd_c (.str " ")) (by decide +kernel) k1)) gg3.gh fun v3 G4 H4 g4 r3 => ?_
    have gg4 := gg3.trans g4
    refine sq_asg (d := .lst (((((Txt.split own " ").drop 1).filter fun far : Str => !decide (far = "-")).map farOf).map tS)) (gd_is (GL.gd (gl_lc1 (j := 5) (xs := (Txt.split own " ").drop 1) (e := .str) (p := fun far => !decide (far = "-")) (f := fun far => tS (farOf far))
        (by rw [List.map_drop, ← cutD_from]; exact gi_seqL (GL.gd (gl_slL (gd_var (i := 3) rfl r3) (go_some (gd_c (.int 1))) go_none))) (by rw [List.length_drop]; omega) (fun _ => rfl)
      (fun far hf G5 v5 e5 r5 => gt_B (gd_op (gd_var (i := 5) rfl r5) (gd_c (.str "-")) ro_neS))
      (fun far hf _ G5 v5 e5 r5 => gd_if (b := decide (far = "0")) (gt_B (gd_op (gd_var (i := 5) rfl r5) (gd_c (.str "0")) ro_eqS)) (fun z => gd_is (gd_tup ga_nil (Nat.zero_le _)) (by unfold farOf; rw [if_pos (of_decide_eq_true z)]; rfl))
        (fun z => gd_is (gd_cb (ga_one (GL.gd (gl_split (gd_var (i := 5) rfl r5) (gd_c (.str "+")) (by decide +kernel) (of_decide_eq_true (List.all_eq_true.mp k4 far (List.mem_of_mem_drop hf)))))) rb_tupL) (by unfold farOf; rw [if_neg (of_decide_eq_false z)]; rfl))))) (by rw [List.map_map]; rfl)) gg4.gh fun v4 G5 H5 g5 r4 => ?_
    have gg5 := gg4.trans g5
    have g45 := g4.trans g5
    have hvl := rv.len
    rw [List.length_map] at hvl
    have htl : ((Txt.split tx "; ").take i).length ≤ 100 := by rw [List.length_take]; omega
    obtain ⟨b0, br, hb0⟩ : ∃ b0 br, Txt.split own " " = b0 :: br := by
      cases q9 : Txt.split own " " with
      | nil => rw [q9] at k3; cases k3
      | cons b0 br => exact ⟨b0, br, rfl⟩
    refine s_append (d := bkItem false (wordOf own)) (i := 1) rfl (gd_is (gd_tup (ga_two (gd_op (gd_var (i := 3) rfl (r3.mono g5.gg)) (gd_c (.int 0)) (ro_ixL (d := .str b0) (by rw [hb0]; exact atI0 _ _))) (gd_cb (ga_one (GL.gd (gl_cb (ga_one (gd_var (i := 4) rfl r4)) (rl_sortT (.inl rfl) ?_)))) rb_tupL)) (by show 2 ≤ 100000; omega)) ?_) gg5.gh (g45.at0 (g3.at0 hp)) (by omega) fun v6 G6 H6 g6 r6 hp6 => ?_
    · rw [List.length_map]
      refine Nat.le_trans (List.length_filter_le _ _) ?_
      rw [List.length_drop]; omega
    · show D.tup [.str b0, tT _] = D.tup [.str (wordOf own).1, tT (wordOf own).2]
      unfold wordOf
      rw [hb0]; rfl
    · have gg6 := (gg5.trans g6).put (p := p) (o := .lst (vs ++ [v6])) (.inl hp1) (g6.off (g45.off (g3.off gp hp) (g3.at0 hp)) (g45.at0 (g3.at0 hp)))
      refine ⟨G6, _, _, _, vs ++ [v6], rfl, gg6, e2.trans (g3.gg.trans (g45.gg.trans g6.gg)), g6.off (g45.off (g3.off gp hp) (g3.at0 hp)) (g45.at0 (g3.at0 hp)), upd_same, ?_⟩
      rw [take_at ho, List.map_append]
      exact (rv.mono (g3.gg.trans (g45.gg.trans g6.gg))).append (.one r6)
  · rintro σ' G' H' ⟨h2, h3, h4, vs, rfl, gg, e2, gp, hp, rv⟩
    rw [List.take_length] at rv
    have gs := gg.seal hp1 hp
    refine gd_tupF (gd_var (i := 1) rfl (.lst upd_same (rv.mono (Ex.new gp)))) H' gs.gh _ fun v G5 H5 g5 r5 => q v G5 H5 (gs.trans g5) ?_
    have : bkT (wordsM tx) = .ftup ((Txt.split tx "; ").map fun own => bkItem false (wordOf own)) := by
      unfold bkT wordsM
      rw [List.map_map]; rfl
    rw [this]; exact r5
end
end Up

/-! text Up19 -/
set_option Elab.async false
set_option linter.all false
set_option maxRecDepth 100000
set_option maxHeartbeats 4000000
/-! the law's own defs: take -/
namespace Up
open PySem PySem.Spec PyProof.Rows L2 UpS
/-- the urn: three whole numbers, the first two not below nothing -/
def Urn (k : Nat) (H : Hp) (p : Addr) : Prop := ∃ (a b c : Nat), H p = some (.lst [.int (a : Int), .int (b : Int), .int (c : Int)]) ∧ c ≤ k
theorem Urn.wk {k l : Nat} {H : Hp} {p : Addr} (u : Urn k H p) (h : k ≤ l) : Urn l H p := let ⟨a, b, c, h1, h2⟩ := u; ⟨a, b, c, h1, Nat.le_trans h2 h⟩
def spTake : Sp := fun vs H Q _ => vs.length = 2 ∧ ∃ (p : Addr) (low k : Nat) (G : Hp), vs = [.ref p, .int (low : Int)] ∧ Ex G H ∧ G p = none ∧ Urn k H p ∧ k ≤ 1000000 ∧ 1 ≤ low ∧ low ≤ 1000 ∧
  ∀ (r : Nat) G' H', Gr (fun a => a = p) G H G' H' → G' p = none → Urn (k + 1) H' p → r < low → Q (.int (r : Int)) H'
section
variable {K : PySem.W.Frag} {σ : L2.St} {G H : Hp} {te : TE} {p : Addr} {o : HO}
theorem GD.ownI {i : Int} (h : GD te σ (upd G p o) (.int i)) (e : Ex G H) (g : G p = none) (hp : H p = some o) (nt : NoT o) (Q : VK)
    (k : ∀ G' H', Gr N0 G H G' H' → Q (.int i) H') : te σ H Q := GD.own h e g hp nt (fun _ _ _ r => by cases r; exact .int _) Q fun v G' H' g r => by cases r; exact k G' H' g
theorem sq_asgI {i : Nat} {z : Int} {tz : TS} {En : Ends} (h : GD te σ (upd G p o) (.int z)) (e : Ex G H) (g : G p = none) (hp : H p = some o) (nt : NoT o) (k : ∀ G' H', Gr N0 G H G' H' → tz En (σ.set i (some (.int z))) H') : tSeq (tAsg te (gName i)) tz En σ H :=
  GD.ownI h e g hp nt _ fun G' H' g' => k G' H' g'
theorem sq_setI {i j : Nat} {k z : Int} {xs : List V} {tz : TS} {En : Ends} (h : GD te σ (upd G p (.lst xs)) (.int z)) (e : Ex G H) (g : G p = none) (hp : H p = some (.lst xs)) (hi : σ[i]? = some (some (.ref p))) (hj : ixN xs.length k = some j)
    (kk : ∀ G' H', Gr N0 G H G' H' → tz En σ (upd H' p (.lst (xs.set j (.int z))))) : tSeq (tAsg te (gSub (tVar i) (tC (.int k)) rSetL)) tz En σ H :=
  GD.ownI h e g hp (fun _ z => by cases z) _ fun G' H' g' => ⟨_, hi, p, xs, k, j, rfl, rfl, g'.at0 hp, hj, kk G' H' g'⟩
theorem ro_mulS {i j : Int} (h : (-(2 ^ 64) < i ∧ i < 2 ^ 64) ∨ (-(2 ^ 64) < j ∧ j < 2 ^ 64)) : RO (rI CMul fun i j => .int (i * j)) (.int i) (.int j) (.int (i * j)) := ro_intC h
theorem rb_int {i : Int} : RB (fun xs H Q => (∃ i, xs = [V.int i] ∧ Q (V.int i) H) ∨ ∃ k, xs = [V.bl k] ∧ Q (V.int (if k then 1 else 0)) H) [.int i] (.int i) := fun G vs h H e Q q => by
  obtain ⟨a, rfl, r⟩ := h.i1
  cases r
  exact .inl ⟨_, rfl, q _ G H (.refl e) (.int _)⟩
theorem ro_fdivNN {n m : Nat} (h : 1 ≤ m ∧ m < 1073741824) : RO (fun x y H Q => ∃ n m : Nat, x = V.int (n : Int) ∧ y = V.int (m : Int) ∧ (1 ≤ m ∧ m < 1073741824) ∧ Q (V.int ((n / m : Nat) : Int)) H) (.int (n : Int)) (.int (m : Int)) (.int ((n / m : Nat) : Int)) := ro_val fun G v w hv hw H e Q q => by
  cases hv; cases hw
  exact ⟨n, m, rfl, rfl, h, q _ (.int _)⟩
theorem gd_at {i : Nat} {xs : List V} {ds : List D} {k : Int} {d : D} (hi : σ[i]? = some (some (.ref p))) (r : Rps G ds xs) (hk : atI ds k = some d) (hp : G p = some (.lst xs)) : GD (tOp (rIxL K) (tVar i) (tC (.int k))) σ G d :=
  gd_op (gd_var hi (.lst hp r)) (gd_c (.int k)) (ro_ixL hk)
theorem fmod_nat {x : Int} {m : Nat} (h : 1 ≤ m) : x.fmod (m : Int) = ((x.fmod (m : Int)).toNat : Int) ∧ (x.fmod (m : Int)).toNat < m := by
  have h1 := Int.fmod_nonneg_of_pos x (show (0 : Int) < m by omega)
  have h2 := Int.fmod_lt_of_pos x (show (0 : Int) < m by omega)
  omega
end
section
variable {P : Program} {w : World} {K : PySem.W.Frag} {mg : Str → Option Value} {base : Heap}
theorem ok_Ltake (M : Mo mg) (h : Df K mg "_law_take" s_Ltake p_Ltake) : At P w K mg base "_law_take" s_Ltake p_Ltake 1 spTake := by
  obtain ⟨f, fd, F, b, g⟩ := h
  refine ⟨f, fd, F, b, g, F.ok c_Ltake (fun vs H Q E h => h.1) (fun cdv A outer s H vs Q E hr h => ?_)⟩
  obtain ⟨_, p, low, kk, G, rfl, e, gp, ⟨a, b, c, hp, hck⟩, hkk, hl1, hl2, q⟩ := h
  refine ⟨_, (pss_cons
    (ps_if (pt_cmpR op_gt (pe_ix (k_ixL K) (pv 0) pe_int (fun _ _ => rfl)) pe_int (nomark _)) (pss_cons
        (ps_set (i := 2) c_Ltake.nd rfl (by first | exact .inl rfl | exact .inr rfl) (pe_op op_modN (pe_callTy call_int1 (by rfl) M.int_ PyProof.Rows.boot_int (pa_cons (pe_ix (k_ixL K) (pv 0) pe_int (fun _ _ => rfl)) pa_nil)) (pv 1)))
        (pss_cons
        (ps_asg (pe_op op_fdivNN (pe_ix (k_ixL K) (pv 0) pe_int (fun _ _ => rfl)) (pv 1)) (pg_sub (pv 0) pe_int set_list))
        (pss_one
        (ps_ret (pv 2))))) pss_nil)
    (pss_cons
    (ps_asg (pe_op op_add (pe_ix (k_ixL K) (pv 0) pe_int (fun _ _ => rfl)) pe_int) (pg_sub (pv 0) pe_int set_list))
    (pss_cons
    (ps_set (i := 3) c_Ltake.nd rfl (by first | exact .inl rfl | exact .inr rfl) (pe_op op_modN (pe_callTy call_int1 (by rfl) M.int_ PyProof.Rows.boot_int (pa_cons (pe_op op_mul (pe_op op_add (pe_ix (k_ixL K) (pv 0) pe_int (fun _ _ => rfl)) (pe_op op_mul pe_int (pe_ix (k_ixL K) (pv 0) pe_int (fun _ _ => rfl)))) (pe_op op_add pe_int (pe_ix (k_ixL K) (pv 0) pe_int (fun _ _ => rfl)))) pa_nil)) pe_int))
    (pss_cons
    (ps_set (i := 4) c_Ltake.nd rfl (by first | exact .inl rfl | exact .inr rfl) (pe_op op_add (pe_op op_modN (pe_callTy call_int1 (by rfl) M.int_ PyProof.Rows.boot_int (pa_cons (pv 3) pa_nil)) pe_int) pe_int))
    (pss_cons
    (ps_set (i := 5) c_Ltake.nd rfl (by first | exact .inl rfl | exact .inr rfl) (pe_op op_modN (pe_callTy call_int1 (by rfl) M.int_ PyProof.Rows.boot_int (pa_cons (pe_op op_mul (pe_op op_add (pe_op op_add (pv 3) (pe_ix (k_ixL K) (pv 0) pe_int (fun _ _ => rfl))) (pe_op op_fdivNN (pe_ix (k_ixL K) (pv 0) pe_int (fun _ _ => rfl)) pe_int)) (pv 4)) pa_nil)) pe_int))
    (pss_one
    (ps_ret (pe_op op_modN (pe_callTy call_int1 (by rfl) M.int_ PyProof.Rows.boot_int (pa_cons (pe_op op_fdivNN (pe_op op_modN (pe_callTy call_int1 (by rfl) M.int_ PyProof.Rows.boot_int (pa_cons (pe_op op_add (pe_op op_mul (pv 5) pe_int) (pv 3)) pa_nil)) pe_int) pe_int) pa_nil)) (pv 1))))))))), ?_⟩
  have nt : ∀ xs, NoT (.lst xs) := fun xs _ z => by cases z
  have at0 : ∀ {σ : L2.St} {G : Hp} {a b c : Int}, σ[0]? = some (some (.ref p)) → GD (tOp (rIxL K) (tVar 0) (tC (.int 0))) σ (upd G p (.lst [.int a, .int b, .int c])) (.int a) := fun h => gd_at (ds := [.int _, .int _, .int _]) h (.cons (.int _) (.cons (.int _) (.cons (.int _) .nil))) rfl upd_same
  have at1 : ∀ {σ : L2.St} {G : Hp} {a b c : Int}, σ[0]? = some (some (.ref p)) → GD (tOp (rIxL K) (tVar 0) (tC (.int 1))) σ (upd G p (.lst [.int a, .int b, .int c])) (.int b) := fun h => gd_at (ds := [.int _, .int _, .int _]) h (.cons (.int _) (.cons (.int _) (.cons (.int _) .nil))) rfl upd_same
  have at2 : ∀ {σ : L2.St} {G : Hp} {a b c : Int}, σ[0]? = some (some (.ref p)) → GD (tOp (rIxL K) (tVar 0) (tC (.int 2))) σ (upd G p (.lst [.int a, .int b, .int c])) (.int c) := fun h => gd_at (ds := [.int _, .int _, .int _]) h (.cons (.int _) (.cons (.int _) (.cons (.int _) .nil))) rfl upd_same
  unfold tSeq tIfS
  refine GT.own (G := G) (p := p) (b := decide ((0 : Int) < (a : Int))) (gt_B (gd_op (r := rI0 fun i j => V.bl (decide (j < i))) (at0 rfl) (gd_c (.int 0)) ro_cmp)) e gp hp (nt _) _ fun G1 H1 g1 => ?_
  have hp1 := g1.at0 hp
  have gp1 := g1.off gp hp
  by_cases ha : (0 : Int) < (a : Int)
  · rw [decide_eq_true ha]
    refine iteT ?_
    refine sq_asgI (z := ((a : Int)).fmod (low : Int)) (G := G1) (p := p) (gd_op (r := rI (fun _ j => j ≠ 0) fun i j => V.int (i.fmod j)) (gd_cb (ga_one (at0 rfl)) rb_int) (gd_var (i := 1) rfl (.int _)) (ro_intC (by omega))) g1.gh gp1 hp1 (nt _) fun G2 H2 g2 => ?_
    have hp2 := g2.at0 hp1
    have gp2 := g2.off gp1 hp1
    refine sq_setI (j := 0) (z := ((a / low : Nat) : Int)) (G := G2) (p := p) (gd_op (at0 rfl) (gd_var (i := 1) rfl (.int _)) (ro_fdivNN ⟨hl1, by omega⟩)) g2.gh gp2 hp2 rfl rfl fun G3 H3 g3 => ?_
    have hp3 := g3.at0 hp2
    have gp3 := g3.off gp2 hp2
    have gg3 := g1.trans (g2.trans g3)
    have gg4 := (gg3.wk0 (M := fun a => a = p)).put (p := p) (o := .lst [.int ((a / low : Nat) : Int), .int (b : Int), .int c]) (.inr rfl) gp3
    obtain ⟨f1, f2⟩ := fmod_nat (x := (a : Int)) hl1
    refine ⟨_, rfl, ?_⟩
    rw [f1]
    exact q _ G3 _ gg4 gp3 ⟨_, _, _, upd_same, by omega⟩ f2
  · rw [decide_eq_false ha]
    refine iteF ?_
    refine sq_setI (j := 2) (z := ((c + 1 : Nat) : Int)) (G := G1) (p := p) (gd_is (gd_op (r := rI0 fun i j => V.int (i + j)) (at2 rfl) (gd_c (.int 1)) ro_int) (by rw [Int.natCast_add]; rfl)) g1.gh gp1 hp1 rfl rfl fun G2 H2 g2 => ?_
    have gp2 := g2.off gp1 hp1
    have gg3 := ((g1.trans g2).wk0 (M := fun a => a = p)).put (p := p) (o := .lst [.int (a : Int), .int (b : Int), .int ((c + 1 : Nat) : Int)]) (.inr rfl) gp2
    have hc1 : c + 1 ≤ kk + 1 := by omega
    generalize c + 1 = c at gg3 hc1
    refine sq_asgI (G := G2) (p := p) (gd_op (r := rI (fun _ j => j ≠ 0) fun i j => V.int (i.fmod j)) (gd_cb (ga_one (gd_op (gd_op (r := rI0 fun i j => V.int (i + j)) (at1 rfl) (gd_op (gd_c (.int 48271)) (at2 rfl) (ro_mulS (.inl (by decide)))) ro_int) (gd_op (r := rI0 fun i j => V.int (i + j)) (gd_c (.int 39373)) (at2 rfl) ro_int) (ro_mulS (.inr (by omega))))) rb_int) (gd_c (.int 2147483647)) (ro_intC (by decide))) gg3.gh gp2 upd_same (nt _) fun G4 H4 g4 => ?_
    have hp4 := g4.at0 upd_same
    have gp4 := g4.off gp2 upd_same
    have gg4 := gg3.trans (g4.wk0)
    generalize (((b : Int) + 48271 * (c : Int)) * (39373 + (c : Int))).fmod 2147483647 = once
    refine sq_asg (gd_op (r := rI0 fun i j => V.int (i + j)) (gd_op (r := rI (fun _ j => j ≠ 0) fun i j => V.int (i.fmod j)) (gd_cb (ga_one (gd_var (i := 3) rfl (.int _))) rb_int) (gd_c (.int 40009)) (ro_intC (by decide))) (gd_c (.int 7)) ro_int) gg4.gh fun v4 G5 H5 g5 r5 => ?_
    cases r5
    have hp5 := g5.at0 hp4
    have gp5 := g5.off gp4 hp4
    have gg5 := gg4.trans (g5.wk0)
    obtain ⟨far, hfar, hf2⟩ : ∃ far : Int, once.fmod 40009 + 7 = far ∧ (-(2 ^ 64) < far ∧ far < 2 ^ 64) := by
      obtain ⟨h1, h2⟩ := fmod_nat (x := once) (m := 40009) (by decide)
      have h1' : once.fmod 40009 = ((once.fmod 40009).toNat : Int) := h1
      have h2' : (once.fmod 40009).toNat < 40009 := h2
      exact ⟨_, rfl, by omega, by omega⟩
    rw [hfar]
    refine sq_asgI (G := G5) (p := p) (gd_op (r := rI (fun _ j => j ≠ 0) fun i j => V.int (i.fmod j)) (gd_cb (ga_one (gd_op (gd_op (r := rI0 fun i j => V.int (i + j)) (gd_op (r := rI0 fun i j => V.int (i + j)) (gd_var (i := 3) rfl (.int _)) (at2 rfl) ro_int) (gd_op (at1 rfl) (gd_c (.int ((1000003 : Nat) : Int))) (ro_fdivNN (by decide))) ro_int) (gd_var (i := 4) rfl (.int _)) (ro_mulS (.inr hf2)))) rb_int) (gd_c (.int 2147483629)) (ro_intC (by decide))) gg5.gh gp5 hp5 (nt _) fun G6 H6 g6 => ?_
    have hp6 := g6.at0 hp5
    have gp6 := g6.off gp5 hp5
    have gg6 := gg5.trans (g6.wk0)
    generalize ((once + (c : Int) + ((b / 1000003 : Nat) : Int)) * far).fmod 2147483629 = both
    obtain ⟨f1, _⟩ := fmod_nat (x := both * 48271 + once) (m := 2147483587) (by decide)
    have f1' : (both * 48271 + once).fmod 2147483587 = (((both * 48271 + once).fmod 2147483587).toNat : Int) := f1
    obtain ⟨k1, k2⟩ := fmod_nat (x := ((((both * 48271 + once).fmod 2147483587).toNat / 64 : Nat) : Int)) hl1
    refine (gd_op (r := rI (fun _ j => j ≠ 0) fun i j => V.int (i.fmod j)) (gd_cb (ga_one (gd_op (gd_is (gd_op (r := rI (fun _ j => j ≠ 0) fun i j => V.int (i.fmod j)) (gd_cb (ga_one (gd_op (r := rI0 fun i j => V.int (i + j)) (gd_op (gd_var (i := 5) rfl (.int _)) (gd_c (.int 48271)) (ro_mulS (.inr (by decide)))) (gd_var (i := 3) rfl (.int _)) ro_int)) rb_int) (gd_c (.int 2147483587)) (ro_intC (by decide))) (by rw [f1'])) (gd_c (.int ((64 : Nat) : Int))) (ro_fdivNN (by decide)))) rb_int) (gd_var (i := 1) rfl (.int _)) (ro_intC (by omega))) H6 gg6.gh _ fun v G7 H7 g7 r7 => ?_
    cases r7
    rw [k1]
    exact q _ G7 H7 (gg6.trans (g7.wk0)) (g7.off gp6 hp6) ⟨_, _, _, g7.at0 hp6, hc1⟩ k2
end
end Up

/-! text Up20 -/
set_option Elab.async false
set_option linter.all false
set_option maxRecDepth 100000
set_option maxHeartbeats 4000000
/-! the law's own defs: mixed -/
namespace Up
open PySem PySem.Spec PyProof.Rows L2 UpS
theorem range_ints {G : Hp} : ∀ {l : List Nat} {vs : List V}, Rps G (l.map fun (i : Nat) => D.int (i : Int)) vs → vs = l.map fun (i : Nat) => V.int (i : Int)
  | [], _, h => by cases h; rfl
  | i :: l, _, h => by
    cases h with
    | cons r t => cases r; rw [range_ints t]; rfl
theorem ints_range {G : Hp} : ∀ l : List Nat, Rps G (l.map fun (i : Nat) => D.int (i : Int)) (l.map fun (i : Nat) => V.int (i : Int))
  | [] => .nil
  | i :: l => .cons (.int _) (ints_range l)
theorem erase_map {α β : Type} (f : α → β) : ∀ (l : List α) (k : Nat), (l.map f).eraseIdx k = (l.eraseIdx k).map f
  | [], _ => rfl
  | _ :: _, 0 => rfl
  | a :: l, k + 1 => by
    show f a :: (l.map f).eraseIdx k = f a :: (l.eraseIdx k).map f
    rw [erase_map f l k]
def spMixed : Sp := fun vs H Q _ => vs.length = 2 ∧ ∃ (p : Addr) (v : V) (k n : Nat) (G : Hp), vs = [.ref p, v] ∧ Ex G H ∧ G p = none ∧ Urn k H p ∧ k ≤ 900000 ∧ Rp G (.lst (rangeD n)) v ∧ n ≤ 20 ∧
  ∀ (js : List Nat) (u : V) (G' H' : Hp), Gr (fun a => a = p) G H G' H' → G' p = none → Urn (k + n) H' p → Rp G' (.tup (js.map fun (j : Nat) => D.int (j : Int))) u → Q u H'
section
variable {P : Program} {w : World} {K : PySem.W.Frag} {mg : Str → Option Value} {base : Heap}
theorem ok_Lmixed (M : Mo mg) (h : Df K mg "_law_mixed" s_Lmixed p_Lmixed) (hT : At P w K mg base "_law_take" s_Ltake p_Ltake 1 spTake) : At P w K mg base "_law_mixed" s_Lmixed p_Lmixed 2 spMixed := by
  obtain ⟨f_Ltake, fd_Ltake, F_Ltake, b_Ltake, g_Ltake, G_Ltake⟩ := hT
  obtain ⟨f, fd, F, b, g⟩ := h
  refine ⟨f, fd, F, b, g, F.ok c_Lmixed (fun vs H Q E h => h.1) (fun cdv A outer s H vs Q E hr h => ?_)⟩
  obtain ⟨_, p, v1, k, n, G, rfl, e, gp, hu, hk, r1, hn, q⟩ := h
  refine ⟨_, (pss_cons
    (ps_par (i := 2) (j := 3) rfl c_Lmixed.nd rfl rfl (by decide) rfl rfl (pa_cons (pe_callTy (k_list K) (by rfl) M.list_ PyProof.Rows.boot_list (pa_cons (pv 1) pa_nil)) (pa_cons (pe_lst pa_nil) pa_nil)) (by rfl))
    (pss_cons
    (ps_for PassesOwn.never rfl (pi_range1 (by rfl) M.range_ (pa_cons (pe_callB (k_len K) (by rfl) M.len_ PySem.boot_len (pa_cons (pv 1) pa_nil)) pa_nil)) (pg_name (i := 4) c_Lmixed.nd rfl (by first | exact .inl rfl | exact .inr rfl)) (pss_one
        (ps_expr (pe_bm PySem.F.plainAttrs_list PySem.F.slot_list_append PySem.F.type_list_append mt_append (pv 3) (pa_cons (pe_bm PySem.F.plainAttrs_list PySem.F.slot_list_pop PySem.F.type_list_pop mt_popAt (pv 2) (pa_cons (pe_call G_Ltake (hr.mono (by omega)) (by rfl) g_Ltake F_Ltake.kp b_Ltake .nil pass0 (pa_cons (pv 0) (pa_cons (pe_callB (k_len K) (by rfl) M.len_ PySem.boot_len (pa_cons (pv 2) pa_nil)) pa_nil))) pa_nil)) pa_nil)))))
    (pss_one
    (ps_ret (pe_callTy (k_tuple K) (by rfl) M.tuple_ PyProof.Rows.boot_tuple (pa_cons (pv 3) pa_nil)))))), ?_⟩
  refine sq_tparLL (gl_cb (ga_one (gd_var (i := 1) rfl r1)) (rl_list (.inr rfl))) (gl_lst ga_nil (Nat.zero_le _)) e fun L vsL F vsF G2 H2 gg2 hLH hFH neLF hL2 hF2 hL3 hF3 rL rF => ?_
  cases rF
  have eL := range_ints rL
  obtain ⟨a0, b0, c0, hp, hc⟩ := hu
  have hp2 := gg2.at0 hp
  have gp2 := gg2.off gp hp
  have nLp : L ≠ p := fun z => by rw [z, hp] at hLH; cases hLH
  have nFp : F ≠ p := fun z => by rw [z, hp] at hFH; cases hFH
  have gr := gi_range (n := ((rangeD n).length : Nat)) (σ := [some (.ref p), some v1, some (.ref L), some (.ref F), none]) (G := G2) (ga_one (gd_cb (ga_one (gd_var (i := 1) rfl (r1.mono gg2.gg))) (rb_lenL (K := K)))) (by rw [rangeD_len]; omega) (by rw [rangeD_len]; omega)
  rw [rangeD_len, Int.toNat_natCast] at gr
  refine sd_for gr gg2.gh fun G3 H3 g3 => ?_
  have gg3 := gg2.trans g3
  refine ⟨fun i σ' G' H' => ∃ (ls js : List Nat) (h4 : Option V), σ' = [some (.ref p), some v1, some (.ref L), some (.ref F), h4] ∧ Gr (fun a => a = p) G H G' H' ∧ Ex G3 G' ∧ G' p = none ∧ Urn (k + i) H' p ∧ G' L = none ∧ G' F = none ∧ H' L = some (.lst (ls.map fun (i : Nat) => V.int (i : Int))) ∧ H' F = some (.lst (js.map fun (i : Nat) => V.int (i : Int))) ∧ ls.length + i = n ∧ js.length = i,
    ⟨List.range n, [], none, rfl, gg3.wk0, .refl _, g3.off gp2 hp2, ⟨a0, b0, c0, g3.at0 hp2, hc⟩, g3.off hL2 hL3, g3.off hF2 hF3, by rw [← eL]; exact g3.at0 hL3, g3.at0 hF3, by rw [List.length_range]; rfl, rfl⟩, ?_, ?_, ?_⟩
  · rintro i σ' G' H' ⟨ls, js, h4, rfl, gg, e3, _⟩
    exact ⟨e3, gg.gh⟩
  · rintro i dd σ' G' H' v4 G4 H4 hdd ⟨ls, js, h4, rfl, gg, e3, gp', ⟨a, b, c, hu, hc⟩, gL, gF, hL, hF, hl, hj⟩ g4 r4
    obtain ⟨hin, rfl⟩ := rangeD_at hdd
    have gg4 := gg.trans (g4.wk0)
    have hL4 := g4.at0 hL
    have hF4 := g4.at0 hF
    refine ⟨_, rfl, .inl ⟨rfl, _, SqL.of hF4⟩, ⟨_, rfl, .inl ⟨rfl, _, SqL.of hL4⟩, ⟨_, rfl, ⟨_, rfl, L, _, rfl, .inl (SqL.of hL4), ?_⟩⟩⟩⟩
    refine ⟨rfl, p, ls.length, k + i, G4, by rw [List.length_map]; rfl, gg4.gh, g4.off gp' hu, ⟨a, b, c, g4.at0 hu, hc⟩, by omega, by omega, by omega, fun r G5 H5 g5 gp5 u5 hr5 => ?_⟩
    have gg5 := gg4.trans g5
    have hL5 := g5.at nLp hL4
    have hF5 := g5.at nFp hF4
    have gL5 := g5.off (g4.off gL hL) hL4
    have gF5 := g5.off (g4.off gF hF) hF4
    obtain ⟨y, hy⟩ : ∃ y, ls[r]? = some y := ⟨_, List.getElem?_eq_getElem hr5⟩
    refine ⟨L, _, (r : Int), r, .int (y : Int), rfl, rfl, hL5, by omega, by omega, ?_, by rw [List.getElem?_map, hy]; rfl, ?_⟩
    · rw [seqIndex_of (by omega) (by rw [List.length_map]; omega)]; rfl
    have gg6 := gg5.put (p := L) (o := .lst ((ls.map fun (i : Nat) => V.int (i : Int)).eraseIdx r)) (.inl hLH) gL5
    have hF6 : (upd H5 L (.lst ((ls.map fun (i : Nat) => V.int (i : Int)).eraseIdx r))) F = some (.lst (js.map fun (i : Nat) => V.int (i : Int))) := by rw [upd_ne (Ne.symm neLF)]; exact hF5
    refine ⟨F, _, _, rfl, rfl, hF6, sz_lt (by rw [List.length_map]; omega), ?_⟩
    have gg7 := gg6.put (p := F) (o := .lst ((js.map fun (i : Nat) => V.int (i : Int)) ++ [.int (y : Int)])) (.inl hFH) gF5
    obtain ⟨a5, b5, c5, h5, k5⟩ := u5
    refine ⟨G5, ls.eraseIdx r, js ++ [y], _, rfl, gg7, e3.trans (g4.gg.trans g5.gg), gp5, ⟨a5, b5, c5, by rw [upd_ne (Ne.symm nFp), upd_ne (Ne.symm nLp)]; exact h5, by omega⟩, gL5, gF5, ?_, ?_, ?_, ?_⟩
    · rw [upd_ne neLF, upd_same, erase_map]
    · rw [upd_same, List.map_append]; rfl
    · rw [List.length_eraseIdx_of_lt hr5]; omega
    · rw [List.length_append, List.length_singleton]; omega
  · rintro σ' G' H' ⟨ls, js, h4, rfl, gg, e3, gp', ⟨a, b, c, hu, hc⟩, gL, gF, hL, hF, hl, hj⟩
    rw [rangeD_len] at *
    have gs := gg.seal hFH hF
    have gps : (upd G' F (.lst (js.map fun (i : Nat) => V.int (i : Int)))) p = none := by rw [upd_ne (Ne.symm nFp)]; exact gp'
    refine (gd_cb (ga_one (gd_var (i := 3) rfl (.lst (ds := js.map fun (j : Nat) => D.int (j : Int)) upd_same (ints_range js)))) rb_tupL) H' gs.gh _ fun v G6 H6 g6 r6 => q js v G6 H6 (gs.trans g6.wk0) (g6.off gps hu) ⟨a, b, c, g6.at0 hu, hc⟩ r6
end
end Up

/-! text Up21 -/
set_option Elab.async false
set_option linter.all false
set_option maxRecDepth 100000
set_option maxHeartbeats 4000000
/-! the law's own defs: pick -/
namespace Up
open PySem PySem.Spec PyProof.Rows L2 UpS
def spPick : Sp := fun vs H Q _ => vs.length = 3 ∧ ∃ (p : Addr) (v : V) (pool : T1) (k size : Nat) (G : Hp), vs = [.ref p, v, .int (size : Int)] ∧ Ex G H ∧ G p = none ∧ Urn k H p ∧ k ≤ 900000 ∧ Rp G (lS pool) v ∧ pool.length ≤ 20 ∧
  ∀ (ys : T1) (u : V) (G' H' : Hp), Gr (fun a => a = p) G H G' H' → G' p = none → Urn (k + pool.length) H' p → Rp G' (lS ys) u → ys.Sublist pool → ys.length ≤ size → Q u H'
theorem rg_nat (n : Nat) : rgV 0 (n : Int) = (List.range n).map fun (i : Nat) => V.int (i : Int) := by
  unfold rgV
  rw [show ((n : Int) - 0).toNat = n by omega]
  refine List.map_congr_left fun i _ => ?_
  rw [Int.zero_add]
theorem get_range (pool : T1) : (List.range pool.length).map (fun i => pool.getD i "") = pool := by
  refine List.ext_getElem (by simp) fun i h1 h2 => ?_
  rw [List.getElem_map, List.getElem_range, List.getD_eq_getElem?_getD, List.getElem?_eq_getElem h2]; rfl
section
variable {P : Program} {w : World} {K : PySem.W.Frag} {mg : Str → Option Value} {base : Heap}
theorem ok_Lpick (M : Mo mg) (h : Df K mg "_law_pick" s_Lpick p_Lpick) (hM : At P w K mg base "_law_mixed" s_Lmixed p_Lmixed 2 spMixed) : At P w K mg base "_law_pick" s_Lpick p_Lpick 3 spPick := by
  obtain ⟨f_Lmixed, fd_Lmixed, F_Lmixed, b_Lmixed, g_Lmixed, G_Lmixed⟩ := hM
  obtain ⟨f, fd, F, b, g⟩ := h
  refine ⟨f, fd, F, b, g, F.ok c_Lpick (fun vs H Q E h => h.1) (fun cdv A outer s H vs Q E hr h => ?_)⟩
  obtain ⟨_, p, v1, pool, k, size, G, rfl, e, gp, hu, hk, r1, hn, q⟩ := h
  refine ⟨_, (pss_cons
    (ps_set (i := 3) c_Lpick.nd rfl (by first | exact .inl rfl | exact .inr rfl) (pe_slice (k_slL K) (pe_callTy (k_list K) (by rfl) M.list_ PyProof.Rows.boot_list (pa_cons (pe_call G_Lmixed (hr.mono (by omega)) (by rfl) g_Lmixed F_Lmixed.kp b_Lmixed .nil pass0 (pa_cons (pv 0) (pa_cons (pe_listRg (by rfl) (by rfl) M.list_ (prg_1 (by rfl) M.range_ (pe_callB (k_len K) (by rfl) M.len_ PySem.boot_len (pa_cons (pv 1) pa_nil)))) pa_nil))) pa_nil)) po_none (po_some (pv 2))))
    (pss_one
    (ps_ret (pe_lc (own := [("_law_k", 4), ("_law_own", 5)]) rfl c_Lpick.nd (k_enumU K (by rfl) M.enumerate_ (pa_cons (pv 1) pa_nil)) (blkOk_by (by kernel_rfl)) (fun _ _ _ _ _ => (k_tup2 K (pgs_cons (pg_name (i := 4) c_Lpick.nd rfl (by first | exact .inl rfl | exact .inr rfl)) (pgs_cons (pg_name (i := 5) c_Lpick.nd rfl (by first | exact .inl rfl | exact .inr rfl)) pgs_nil)))) (fun _ _ _ _ _ => (pts_one (pt_cmpR (k_in K) (pv 4) (pv 3) (by rfl)))) (fun _ _ _ _ _ => (pv 5)))))), ?_⟩
  obtain ⟨a0, b0, c0, hp, hc⟩ := hu
  cases r1 with
  | @lst b1 vs1 _ hb1 rs1 =>
  have hlen := rs1.len
  rw [List.length_map] at hlen
  refine ⟨_, rfl, _, rfl, b1, vs1, rfl, .inl (sqL_of e hb1), _, rfl, ?_, fun R hR => ?_⟩
  · exact RgOk.of_le (by omega) (by omega) (by omega) (by omega)
  rw [← hlen, rg_nat]
  have g0 : Gr (fun a => a = p) G H G H := .refl e
  have g1 := g0.data (o := .lst ((List.range pool.length).map fun (i : Nat) => V.int (i : Int))) hR
  have nRp : R ≠ p := fun z => by rw [z, hp] at hR; cases hR
  have m1 := Ex.new (o := HO.lst ((List.range pool.length).map fun (i : Nat) => V.int (i : Int))) (e.free hR)
  have r1 : Rp G (lS pool) (.ref b1) := .lst hb1 rs1
  refine ⟨rfl, p, .ref R, k, pool.length, _, rfl, g1.gh, by rw [upd_ne (Ne.symm nRp)]; exact gp, ⟨a0, b0, c0, by rw [upd_ne (Ne.symm nRp)]; exact hp, hc⟩, hk, .lst upd_same (ints_range _), hn, fun js u G2 H2 g2 gp2 u2 ru => ?_⟩
  have gg2 := g1.trans g2
  show tSeq (tAsg (tSl (rSlL K) (tCB (rLstU K) (tCons (tC u) tNil)) tNoPart (tPart (tVar 2))) (gName 3)) _ _ (start n_Lpick [.ref p, .ref b1, .int (size : Int)]) H2
  refine sq_asg (d := .lst (((js.take size).map fun (j : Nat) => (j : Int)).map D.int)) (gd_is (GL.gd (gl_slL (GL.gd (gl_cb (ga_one (gd_c ru)) (rl_list (.inl rfl)))) go_none (go_some (gd_var (i := 2) rfl (.int _))))) (by rw [cutD_to, ← List.map_take, List.map_map]; rfl)) gg2.gh fun v3 G3 H3 g3 r3 => ?_
  have gg3 := gg2.trans g3.wk0
  obtain ⟨a, b, c, hu2, hc2⟩ := u2
  have hu3 := g3.at0 hu2
  have gp3 := g3.off gp2 hu2
  have lc := gl_lc (vs := [4, 5]) (xs := List.range pool.length) (e := fun (i : Nat) => D.tup [.int (i : Int), (pool.map D.str).getD i .non]) (p := fun i : Nat => decide ((i : Int) ∈ (js.take size).map fun (j : Nat) => (j : Int))) (f := fun i => D.str (pool.getD i "")) (σ := [some (.ref p), some (.ref b1), some (.int (size : Int)), some v3, none, none]) (G := G3)
    (wi := iEnumU K (tCons (tVar 1) tNil)) (g := gTup K 2 (gCons (gName 4) (gCons (gName 5) gNil))) (tt := tB (tOp (rIn K false) (tVar 4) (tVar 3))) (te := tVar 5)
    (by have := gi_enum (K := K) (ds := pool.map D.str) (.inl rfl) (ga_one (gd_var (σ := [some (.ref p), some (.ref b1), some (.int (size : Int)), some v3, none, none]) (i := 1) rfl (r1.mono gg3.gg)))
        unfold enumD at this
        rw [List.length_map] at this
        exact this) (by rw [List.length_range]; omega)
    (fun i hi G' H' v e1 e2 rp Q q => tg_tup2 rp e2 fun a b ra rb => q _ rfl (gt_B (gd_op (gd_var (i := 4) rfl ra) (gd_var (i := 3) rfl (r3.mono e1)) (ro_inLI (neg := false)))) fun _ => gd_is (gd_var (i := 5) rfl rb) (by
      have hi' := List.mem_range.mp hi
      rw [List.getD_eq_getElem?_getD, List.getD_eq_getElem?_getD, List.getElem?_map, List.getElem?_eq_getElem hi']; rfl))
  refine lc.gd H3 gg3.gh _ fun v G4 H4 g4 r4 => ?_
  refine q (((List.range pool.length).filter fun i : Nat => decide ((i : Int) ∈ (js.take size).map fun (j : Nat) => (j : Int))).map fun i => pool.getD i "") v G4 H4 (gg3.trans g4.wk0) (g4.off gp3 hu3) ⟨a, b, c, g4.at0 hu3, hc2⟩ (by
    unfold lS
    rw [List.map_map]; exact r4) ?_ ?_
  · have h := (List.filter_sublist (p := fun i : Nat => decide ((i : Int) ∈ (js.take size).map fun (j : Nat) => (j : Int))) (l := List.range pool.length)).map fun i => pool.getD i ""
    rwa [get_range] at h
  · rw [List.length_map]
    have h1 := lenLe (l := (List.range pool.length).filter fun i : Nat => decide ((i : Int) ∈ (js.take size).map fun (j : Nat) => (j : Int))) (m := js.take size) (List.Pairwise.filter _ List.nodup_range) fun i hi => by
      have h2 := of_decide_eq_true (List.mem_filter.mp hi).2
      obtain ⟨j, hj, e9⟩ := List.mem_map.mp h2
      have : j = i := by omega
      rwa [← this]
    have h3 : (js.take size).length ≤ size := by rw [List.length_take]; exact Nat.min_le_left _ _
    omega
end
end Up

/-! text Up22 -/
set_option Elab.async false
set_option linter.all false
set_option maxRecDepth 100000
set_option maxHeartbeats 4000000
/-! the law's own defs: book -/
namespace Up
open PySem PySem.Spec PyProof.Rows L2 UpS
def eight : T1 := ["a", "b", "c", "disk", "e", "net", "web", "x"]
/-- a book as the law draws it -/
structure Drawn (b : Bk) : Prop where
  nd : (names b).Nodup
  len : b.length ≤ 4
  sub : ∀ x ∈ names b, x ∈ eight
  nl : ∀ p ∈ b, p.2.length ≤ 4
  ll : ∀ p ∈ b, ∀ n ∈ p.2, n.length ≤ 4 ∧ ∀ x ∈ n, x ∈ names b
def spBook : Sp := fun vs H Q _ => vs.length = 2 ∧ ∃ (p : Addr) (k : Nat) (G : Hp), vs = [.ref p, .int 4] ∧ Ex G H ∧ G p = none ∧ Urn k H p ∧ k ≤ 800000 ∧
  ∀ (b : Bk) (u : V) (G' H' : Hp), Gr (fun a => a = p) G H G' H' → G' p = none → Urn (k + 200) H' p → Rp G' (bkT b) u → Drawn b → Q u H'
structure BInv (ns : T1) (i : Nat) (bs : Bk) : Prop where
  nm : bs.map (·.1) = ns.take i
  nl : ∀ p ∈ bs, p.2.length ≤ 4
  ll : ∀ p ∈ bs, ∀ n ∈ p.2, n.length ≤ 4 ∧ ∀ x ∈ n, x ∈ ns
section
variable {σ : L2.St} {G H : Hp} {tt : TT} {tu tw tz : TS} {En : Ends}
theorem sq_ifK {b : Bool} (N : L2.St → Hp → Prop) (h : GT tt σ G b) (e : Ex G H) (k : ∀ σ H, N σ H → tz En σ H) (h1 : b = true → ∀ G' H', Gr N0 G H G' H' → ∀ Z : L2.St → Hp → Prop, (∀ σ H, N σ H → Z σ H) → tu { En with nx := Z } σ H')
    (h2 : b = false → ∀ G' H', Gr N0 G H G' H' → ∀ Z : L2.St → Hp → Prop, (∀ σ H, N σ H → Z σ H) → tw { En with nx := Z } σ H') : tSeq (tIfS tt tu tw) tz En σ H :=
  sq_if h e (fun hb G' H' g => h1 hb G' H' g _ k) (fun hb G' H' g => h2 hb G' H' g _ k)
end
section
variable {P : Program} {w : World} {K : PySem.W.Frag} {mg : Str → Option Value} {base : Heap}
theorem ok_Lbook (M : Mo mg) (h : Df K mg "_law_book" s_Lbook p_Lbook) (hT : At P w K mg base "_law_take" s_Ltake p_Ltake 1 spTake) (hP : At P w K mg base "_law_pick" s_Lpick p_Lpick 3 spPick) : At P w K mg base "_law_book" s_Lbook p_Lbook 4 spBook := by
  obtain ⟨f_Ltake, fd_Ltake, F_Ltake, b_Ltake, g_Ltake, G_Ltake⟩ := hT
  obtain ⟨f_Lpick, fd_Lpick, F_Lpick, b_Lpick, g_Lpick, G_Lpick⟩ := hP
  obtain ⟨f, fd, F, b, g⟩ := h
  refine ⟨f, fd, F, b, g, F.ok c_Lbook (fun vs H Q E h => h.1) (fun cdv A outer s H vs Q E hr h => ?_)⟩
  obtain ⟨_, p, k, G, rfl, e, gp, hu, hk, q⟩ := h
  refine ⟨_, (pss_cons
    (ps_set (i := 2) c_Lbook.nd rfl (by first | exact .inl rfl | exact .inr rfl) (pe_callB (k_sorted K w hr.units) (by rfl) M.sorted_ PyProof.Rows.boot_sorted (pa_cons (pe_call G_Lpick (hr.mono (by omega)) (by rfl) g_Lpick F_Lpick.kp b_Lpick .nil pass0 (pa_cons (pv 0) (pa_cons (pe_lst (pa_cons pe_str (pa_cons pe_str (pa_cons pe_str (pa_cons pe_str (pa_cons pe_str (pa_cons pe_str (pa_cons pe_str (pa_cons pe_str pa_nil))))))))) (pa_cons (pe_op op_add pe_int (pe_call G_Ltake (hr.mono (by omega)) (by rfl) g_Ltake F_Ltake.kp b_Ltake .nil pass0 (pa_cons (pv 0) (pa_cons (pv 1) pa_nil)))) pa_nil)))) pa_nil)))
    (pss_cons
    (ps_set (i := 3) c_Lbook.nd rfl (by first | exact .inl rfl | exact .inr rfl) (pe_lst pa_nil))
    (pss_cons
    (ps_for PassesOwn.never rfl (k_seq K (pv 2)) (pg_name (i := 4) c_Lbook.nd rfl (by first | exact .inl rfl | exact .inr rfl)) (pss_cons
        (ps_set (i := 5) c_Lbook.nd rfl (by first | exact .inl rfl | exact .inr rfl) (pe_lst pa_nil))
        (pss_cons
        (ps_for PassesOwn.never rfl (pi_range1 (by rfl) M.range_ (pa_cons (pe_call G_Ltake (hr.mono (by omega)) (by rfl) g_Ltake F_Ltake.kp b_Ltake .nil pass0 (pa_cons (pv 0) (pa_cons pe_int pa_nil))) pa_nil)) (pg_name (i := 6) c_Lbook.nd rfl (by first | exact .inl rfl | exact .inr rfl)) (pss_one
            (ps_expr (pe_bm PySem.F.plainAttrs_list PySem.F.slot_list_append PySem.F.type_list_append mt_append (pv 5) (pa_cons (pe_callTy (k_tuple K) (by rfl) M.tuple_ PyProof.Rows.boot_tuple (pa_cons (pe_callB (k_sorted K w hr.units) (by rfl) M.sorted_ PyProof.Rows.boot_sorted (pa_cons (pe_call G_Lpick (hr.mono (by omega)) (by rfl) g_Lpick F_Lpick.kp b_Lpick .nil pass0 (pa_cons (pv 0) (pa_cons (pv 2) (pa_cons (pe_call G_Ltake (hr.mono (by omega)) (by rfl) g_Ltake F_Ltake.kp b_Ltake .nil pass0 (pa_cons (pv 0) (pa_cons pe_int pa_nil))) pa_nil)))) pa_nil)) pa_nil)) pa_nil)))))
        (pss_cons
        (ps_if (pt_cmpR op_eq (pe_call G_Ltake (hr.mono (by omega)) (by rfl) g_Ltake F_Ltake.kp b_Ltake .nil pass0 (pa_cons (pv 0) (pa_cons pe_int pa_nil))) pe_int (nomark _)) (pss_one
            (ps_expr (pe_bm PySem.F.plainAttrs_list PySem.F.slot_list_append PySem.F.type_list_append mt_append (pv 5) (pa_cons (pe_tup pa_nil) pa_nil)))) pss_nil)
        (pss_one
        (ps_expr (pe_bm PySem.F.plainAttrs_list PySem.F.slot_list_append PySem.F.type_list_append mt_append (pv 3) (pa_cons (pe_tup (pa_cons (pv 4) (pa_cons (pe_callTy (k_tuple K) (by rfl) M.tuple_ PyProof.Rows.boot_tuple (pa_cons (pe_callB (k_sorted K w hr.units) (by rfl) M.sorted_ PyProof.Rows.boot_sorted (pa_cons (pe_callTy (k_set K w hr.units) (by rfl) M.set_ PyProof.Rows.boot_set (pa_cons (pv 5) pa_nil)) pa_nil)) pa_nil)) pa_nil))) pa_nil))))))))
    (pss_one
    (ps_ret (pe_callTy (k_tupF K) (by rfl) M.tuple_ PyProof.Rows.boot_tuple (pa_cons (pv 3) pa_nil))))))), ?_⟩
  refine ⟨_, rfl, ?_⟩
  refine (gd_is (x := lS eight) (gd_lst (ga_cons (gd_c (.str "a")) (ga_cons (gd_c (.str "b")) (ga_cons (gd_c (.str "c")) (ga_cons (gd_c (.str "disk")) (ga_cons (gd_c (.str "e")) (ga_cons (gd_c (.str "net")) (ga_cons (gd_c (.str "web")) (ga_one (gd_c (.str "x"))))))))))  (by show 8 ≤ 100000; omega)) rfl) H e _ fun vl G1 H1 g1 rl => ?_
  obtain ⟨a0, b0, c0, hp, hc⟩ := hu
  refine ⟨_, rfl, _, rfl, ?_⟩
  refine ⟨rfl, p, 4, k, G1, rfl, g1.gh, g1.off gp hp, ⟨a0, b0, c0, g1.at0 hp, hc⟩, by omega, by decide, by decide, fun r1 G2 H2 g2 gp2 u2 hr1 => ?_⟩
  refine ⟨1, _, rfl, rfl, ?_⟩
  have gg2 := (g1.wk0).trans g2
  refine ⟨rfl, p, vl, eight, k + 1, 1 + r1, G2, by rw [Int.natCast_add]; rfl, gg2.gh, gp2, u2, by omega, rl.mono g2.gg, by decide, fun ys u3 G3 H3 g3 gp3 hu3 ru hsub hsz => ?_⟩
  have gg3 := gg2.trans g3
  have hn8 : eight.Nodup := by decide +kernel
  have ysn := hsub.nodup hn8
  have e8 : eight.length = 8 := by decide +kernel
  rw [e8] at hu3
  show tSeq (tAsg (tCB (rSrt K w) (tCons (tC u3) tNil)) (gName 2)) _ _ (start n_Lbook [.ref p, .int 4]) H3
  refine sq_asg (d := lS (isort ltS ys)) (GL.gd (gl_cb (ga_one (gd_c ru)) (rl_sortS (.inl rfl)))) gg3.gh fun v2 G4 H4 g4 r2 => ?_
  have nsn : (isort ltS ys).Nodup := (isort_perm ys).nodup_iff.mpr ysn
  have nsl : (isort ltS ys).length ≤ 4 := by rw [len_isort]; omega
  have nsub : ∀ x ∈ isort ltS ys, x ∈ eight := fun x hx => hsub.subset (mem_isort.mp hx)
  generalize isort ltS ys = ns at r2 nsn nsl nsub
  obtain ⟨a3, b3, c3, hp3, hc3⟩ := hu3
  have hp4 := g4.at0 hp3
  have gp4 := g4.off gp3 hp3
  have gg4 := gg3.trans g4.wk0
  refine sq_asgL (gl_lst ga_nil (Nat.zero_le _)) gg4.gh fun F vsF G5 H5 g5 hF1 hF2 hF3 rF => ?_
  have gg5 := gg4.trans g5.wk0
  have hFH : H F = none := gg4.free hF1
  have nFp : F ≠ p := fun z => by rw [z, hp] at hFH; cases hFH
  refine sd_for (gi_seqL (gd_var (i := 2) rfl (r2.mono g5.gg))) gg5.gh fun G6 H6 g6 => ?_
  have gg6 := gg5.trans g6.wk0
  have r26 := (r2.mono g5.gg).mono g6.gg
  rw [List.length_map]
  refine ⟨fun i σ' G' H' => ∃ (bs : Bk) (vsF : List V) (h4 h5 h6 : Option V), σ' = [some (.ref p), some (.int 4), some v2, some (.ref F), h4, h5, h6] ∧ Gr (fun a => a = p) G H G' H' ∧ Ex G6 G' ∧ G' p = none ∧ Urn (k + 9 + 17 * i) H' p ∧ G' F = none ∧ H' F = some (.lst vsF) ∧ Rps G' (bs.map (bkItem false)) vsF ∧ i ≤ ns.length ∧ BInv ns i bs,
    ⟨[], vsF, none, none, none, rfl, gg6, .refl _, g6.off (g5.off gp4 hp4) (g5.at0 hp4), ⟨a3, b3, c3, g6.at0 (g5.at0 hp4), by omega⟩, g6.off hF2 hF3, g6.at0 hF3, rF.mono g6.gg, Nat.zero_le _, ⟨rfl, (fun p hp => nomatch hp), fun p hp => nomatch hp⟩⟩, ?_, ?_, ?_⟩
  · rintro i σ' G' H' ⟨bs, vsF, h4, h5, h6, rfl, gg, e6, _⟩
    exact ⟨e6, gg.gh⟩
  · rintro i dd σ' G' H' v4 G7 H7 hdd ⟨bs, vsF, h4, h5, h6, rfl, gg, e6, gp', ⟨a, b, c, hu, hc⟩, gF, hF, rv, hil, BI⟩ g7 r4
    obtain ⟨own, ho, rfl⟩ := mem_seq hdd
    have hin : i < ns.length := (List.getElem?_eq_some_iff.mp ho).1
    have gg7 := gg.trans g7.wk0
    have hu7 := g7.at0 hu
    have hF7 := g7.at0 hF
    have gp7 := g7.off gp' hu
    have gF7 := g7.off gF hF
    refine sq_asgL (gl_lst ga_nil (Nat.zero_le _)) gg7.gh fun W vsW G8 H8 g8 hW1 hW2 hW3 rW => ?_
    cases rW
    have gg8 := gg7.trans g8.wk0
    have hWH : H W = none := gg7.free hW1
    have nWp : W ≠ p := fun z => by rw [z, hp] at hWH; cases hWH
    have nWF : W ≠ F := fun z => by rw [z, hF7] at hW1; cases hW1
    have hu8 := g8.at0 hu7
    have gp8 := g8.off gp7 hu7
    -- how many needs
    refine ⟨_, rfl, ?_⟩
    refine ⟨rfl, p, 4, k + 9 + 17 * i, G8, rfl, gg8.gh, gp8, ⟨a, b, c, hu8, hc⟩, by omega, by decide, by decide, fun t G9 H9 g9 gp9 hu9 ht => ?_⟩
    have gg9 := gg8.trans g9
    have hF9 := g9.at nFp (g8.at0 hF7)
    have gF9 := g9.off (g8.off gF7 hF7) (g8.at0 hF7)
    have hW9 := g9.at nWp hW3
    have gW9 := g9.off hW2 hW3
    have e79 : Ex G7 G9 := g8.gg.trans g9.gg
    have gr := gi_range (n := ((t : Nat) : Int)) (σ := [some (.ref p), some (.int 4), some v2, some (.ref F), some v4, some (.ref W), h6]) (G := G9) (ga_one (gd_c (.int (t : Int)))) (by omega) (by omega)
    rw [Int.toNat_natCast] at gr
    show tSeq (tFor (iRng1 (tCons (tC (.int (t : Int))) tNil)) (gName 6) _) _ _ [some (.ref p), some (.int 4), some v2, some (.ref F), some v4, some (.ref W), h6] H9
    refine sd_for gr gg9.gh fun G10 H10 g10 => ?_
    have gg10 := gg9.trans g10.wk0
    obtain ⟨a9, b9, c9, hp9, hc9⟩ := hu9
    refine ⟨fun j σ'' G'' H'' => ∃ (ws : T2) (vsW : List V) (h6 : Option V), σ'' = [some (.ref p), some (.int 4), some v2, some (.ref F), some v4, some (.ref W), h6] ∧ Gr (fun a => a = p) G H G'' H'' ∧ Ex G10 G'' ∧ G'' p = none ∧ Urn (k + 9 + 17 * i + 1 + 5 * j) H'' p ∧ G'' F = none ∧ H'' F = some (.lst vsF) ∧ G'' W = none ∧ H'' W = some (.lst vsW) ∧ Rps G'' (ws.map tS) vsW ∧ ws.length = j ∧ j ≤ t ∧ ∀ n ∈ ws, n.length ≤ 4 ∧ ∀ x ∈ n, x ∈ ns,
      ⟨[], [], h6, rfl, gg10, .refl _, g10.off gp9 hp9, ⟨a9, b9, c9, g10.at0 hp9, by omega⟩, g10.off gF9 hF9, g10.at0 hF9, g10.off gW9 hW9, g10.at0 hW9, .nil, rfl, Nat.zero_le _, fun n hn => nomatch hn⟩, ?_, ?_, ?_⟩
    · rintro j σ'' G'' H'' ⟨ws, vsW, h6, rfl, gg, e10, _⟩
      exact ⟨e10, gg.gh⟩
    · rintro j dd σ'' G'' H'' v6 G11 H11 hdd ⟨ws, vsW, h6, rfl, gg, e10, gpj, ⟨aj, bj, cj, huj, hcj⟩, gFj, hFj, gWj, hWj, rW, hwl, hjt, hws⟩ g11 r6
      obtain ⟨hjt', rfl⟩ := rangeD_at hdd
      have gg11 := gg.trans g11.wk0
      have hu11 := g11.at0 huj
      have gp11 := g11.off gpj huj
      have hF11 := g11.at0 hFj
      have gF11 := g11.off gFj hFj
      have hW11 := g11.at0 hWj
      have gW11 := g11.off gWj hWj
      have r2' : Rp G11 (lS ns) v2 := r26.mono (e6.trans (g7.gg.trans (e79.trans (g10.gg.trans (e10.trans g11.gg)))))
      refine ⟨_, rfl, .inl ⟨rfl, _, SqL.of hW11⟩, ⟨_, rfl, _, rfl, _, rfl, ?_⟩⟩
      refine ⟨rfl, p, 3, k + 9 + 17 * i + 1 + 5 * j, G11, rfl, gg11.gh, gp11, ⟨aj, bj, cj, hu11, hcj⟩, by omega, by decide, by decide, fun sz G12 H12 g12 gp12 hu12 hsz => ?_⟩
      refine ⟨rfl, p, v2, ns, k + 9 + 17 * i + 1 + 5 * j + 1, sz, G12, rfl, g12.gh, gp12, hu12, by omega, r2'.mono g12.gg, by omega, fun zs u13 G13 H13 g13 gp13 hu13 ru13 hsub13 _ => ?_⟩
      have gg13 := gg11.trans (g12.trans g13)
      have hF13 := g13.at nFp (g12.at nFp hF11)
      have gF13 := g13.off (g12.off gF11 hF11) (g12.at nFp hF11)
      have hW13 := g13.at nWp (g12.at nWp hW11)
      have gW13 := g13.off (g12.off gW11 hW11) (g12.at nWp hW11)
      refine (gd_cb (ga_one (GL.gd (gl_cb (ga_one (gd_c (σ := [some (.ref p), some (.int 4), some v2, some (.ref F), some v4, some (.ref W), some (.int (j : Int))]) ru13)) (rl_sortS (K := K) (w := w) (.inl rfl))))) (rb_tupL (K := K))) H13 gg13.gh _ fun v14 G14 H14 g14 r14 => ?_
      have gg14 := gg13.trans g14.wk0
      obtain ⟨ad, bd, cd, hud, hcd⟩ := hu13
      have wl : vsW.length = ws.length := by have := rW.len; rw [List.length_map] at this; exact this.symm
      refine ⟨W, vsW, v14, rfl, rfl, g14.at0 hW13, sz_lt (by omega), ?_⟩
      have gg15 := gg14.put (p := W) (o := .lst (vsW ++ [v14])) (.inl hWH) (g14.off gW13 hW13)
      refine ⟨G14, ws ++ [isort ltS zs], vsW ++ [v14], _, rfl, gg15, e10.trans (g11.gg.trans (g12.gg.trans (g13.gg.trans g14.gg))), g14.off gp13 hud, ⟨ad, bd, cd, by rw [upd_ne (Ne.symm nWp)]; exact g14.at0 hud, by omega⟩, g14.off gF13 hF13, by rw [upd_ne (Ne.symm nWF)]; exact g14.at0 hF13, g14.off gW13 hW13, upd_same, ?_, by rw [List.length_append, List.length_singleton, hwl], hjt', fun n hn => ?_⟩
      · rw [List.map_append]
        exact (rW.mono (g11.gg.trans (g12.gg.trans (g13.gg.trans g14.gg)))).append (.one r14)
      · rcases List.mem_append.mp hn with z | z
        · exact hws n z
        · rw [List.mem_singleton.mp z]
          exact ⟨by rw [len_isort]; have := hsub13.length_le; omega, fun x hx => hsub13.subset (mem_isort.mp hx)⟩
    · rintro σ'' G'' H'' ⟨ws, vsW, h6, rfl, gg, e10, gpj, ⟨aj, bj, cj, huj, hcj⟩, gFj, hFj, gWj, hWj, rW, hwl, hjt, hws⟩
      rw [rangeD_len] at hwl hcj
      refine ⟨_, rfl, ?_⟩
      refine ⟨rfl, p, 4, k + 9 + 17 * i + 1 + 5 * t, G'', rfl, gg.gh, gpj, ⟨aj, bj, cj, huj, hcj⟩, by omega, by decide, by decide, fun z G12 H12 g12 gp12 hu12 hz => ?_⟩
      have gg12 := gg.trans g12
      obtain ⟨ad, bd, cd, hud, hcd⟩ := hu12
      have hF12 := g12.at nFp hFj
      have gF12 := g12.off gFj hFj
      have hW12 := g12.at nWp hWj
      have gW12 := g12.off gWj hWj
      have wl : vsW.length = ws.length := by have := rW.len; rw [List.length_map] at this; exact this.symm
      show tSeq (tIfS (tB (tOp rEq (tC (.int (z : Int))) (tC (.int 0)))) _ _) _ _ [some (.ref p), some (.int 4), some v2, some (.ref F), some v4, some (.ref W), h6] H12
      refine sq_ifK (fun σ'' H'' => ∃ (G'' : Hp) (ws : T2) (vsW : List V), σ'' = [some (.ref p), some (.int 4), some v2, some (.ref F), some v4, some (.ref W), h6] ∧ Gr (fun a => a = p) G H G'' H'' ∧ Ex G12 G'' ∧ G'' p = none ∧ Urn (k + 9 + 17 * (i + 1)) H'' p ∧ G'' F = none ∧ H'' F = some (.lst vsF) ∧ G'' W = none ∧ H'' W = some (.lst vsW) ∧ Rps G'' (ws.map tS) vsW ∧ ws.length ≤ 4 ∧ ∀ n ∈ ws, n.length ≤ 4 ∧ ∀ x ∈ n, x ∈ ns)
        (b := decide ((z : Int) = 0)) (gt_B (gd_op (gd_c (.int _)) (gd_c (.int 0)) ro_eqI)) gg12.gh ?_ (fun _ G13 H13 g13 Z hZ => ?_) (fun _ G13 H13 g13 Z hZ => ?_)
      · rintro σ3 H3 ⟨G3, ws, vsW, rfl, gg, e12, gp3, ⟨ae, be, ce, hue, hce⟩, gF3, hF3, gW3, hW3, rW, hwl, hws⟩
        have gs := gg.seal hWH hW3
        have gFs : (upd G3 W (.lst vsW)) F = none := by rw [upd_ne (Ne.symm nWF)]; exact gF3
        have gps : (upd G3 W (.lst vsW)) p = none := by rw [upd_ne (Ne.symm nWp)]; exact gp3
        have m3 := Ex.new (o := HO.lst vsW) gW3
        have e7s : Ex G7 (upd G3 W (.lst vsW)) := (e79.trans (g10.gg.trans (e10.trans (g12.gg.trans e12)))).trans m3
        have vl : vsF.length = bs.length := by have := rv.len; rw [List.length_map] at this; exact this.symm
        have bl : bs.length ≤ 4 := by have := congrArg List.length BI.nm; rw [List.length_map, List.length_take] at this; omega
        refine s_append (d := bkItem false (own, sset ltT ws)) (i := 3) rfl (gd_is (gd_tup (ga_two (gd_var (i := 4) rfl (r4.mono e7s)) (gd_cb (ga_one (GL.gd (gl_sortSetT (gd_var (i := 5) rfl (.lst upd_same (rW.mono m3))) fun l nd hl => by have := lenLe nd hl; omega))) rb_tupL)) (by show 2 ≤ 100000; omega)) rfl) gs.gh hF3 (by omega) fun v8 G8 H8 g8 r8 hF8 => ?_
        have gg8 := (gs.trans g8.wk0).put (p := F) (o := .lst (vsF ++ [v8])) (.inl hFH) (g8.off gFs hF3)
        refine ⟨G8, bs ++ [(own, sset ltT ws)], vsF ++ [v8], _, _, _, rfl, gg8, e6.trans (g7.gg.trans (e7s.trans g8.gg)), g8.off gps hue, ⟨ae, be, ce, by rw [upd_ne (Ne.symm nFp)]; exact g8.at0 hue, hce⟩, g8.off gFs hF3, upd_same, ?_, hin, ?_, ?_, ?_⟩
        · rw [List.map_append]
          exact (rv.mono (g7.gg.trans (e7s.trans g8.gg))).append (.one r8)
        · rw [List.map_append, BI.nm, take_at ho]; rfl
        · intro p9 hp9
          rcases List.mem_append.mp hp9 with z9 | z9
          · exact BI.nl p9 z9
          · rw [List.mem_singleton.mp z9]
            have := lenLe ((sset_sst ordT ws).nodup ordT) (m := ws) fun x hx => mem_sset.mp hx
            show (sset ltT ws).length ≤ 4
            omega
        · intro p9 hp9
          rcases List.mem_append.mp hp9 with z9 | z9
          · exact BI.ll p9 z9
          · rw [List.mem_singleton.mp z9]
            exact fun n hn => hws n (mem_sset.mp hn)
      · refine s_append (d := tS []) (i := 5) rfl (gd_tup ga_nil (Nat.zero_le _)) g13.gh (g13.at0 hW12) (by omega) fun v8 G8 H8 g8 r8 hW8 => ?_
        have gg13 := gg12.trans (g13.wk0.trans g8.wk0)
        have g138 := g13.trans g8
        have gg8 := gg13.put (p := W) (o := .lst (vsW ++ [v8])) (.inl hWH) (g138.off gW12 hW12)
        refine hZ _ _ ⟨G8, ws ++ [[]], vsW ++ [v8], rfl, gg8, g138.gg, g138.off gp12 hud, ⟨ad, bd, cd, by rw [upd_ne (Ne.symm nWp)]; exact g138.at0 hud, by omega⟩, g138.off gF12 hF12, by rw [upd_ne (Ne.symm nWF)]; exact g138.at0 hF12, g138.off gW12 hW12, upd_same, ?_, by rw [List.length_append, List.length_singleton]; omega, fun n hn => ?_⟩
        · rw [List.map_append]
          exact (rW.mono (g12.gg.trans g138.gg)).append (.one r8)
        · rcases List.mem_append.mp hn with z9 | z9
          · exact hws n z9
          · rw [List.mem_singleton.mp z9]
            exact ⟨Nat.zero_le _, fun x hx => nomatch hx⟩
      · exact hZ _ _ ⟨G13, ws, vsW, rfl, gg12.trans g13.wk0, g13.gg, g13.off gp12 hud, ⟨ad, bd, cd, g13.at0 hud, by omega⟩, g13.off gF12 hF12, g13.at0 hF12, g13.off gW12 hW12, g13.at0 hW12, rW.mono (g12.gg.trans g13.gg), by omega, hws⟩
  · rintro σ' G' H' ⟨bs, vsF, h4, h5, h6, rfl, gg, e6, gp', ⟨a, b, c, hu, hc⟩, gF, hF, rv, hil, BI⟩
    have gs := gg.seal hFH hF
    have gps : (upd G' F (.lst vsF)) p = none := by rw [upd_ne (Ne.symm nFp)]; exact gp'
    refine gd_tupF (gd_var (i := 3) rfl (.lst upd_same (rv.mono (Ex.new gF)))) H' gs.gh _ fun v G8 H8 g8 r8 => q bs v G8 H8 (gs.trans g8.wk0) (g8.off gps hu) ⟨a, b, c, g8.at0 hu, by omega⟩ r8 ?_
    have nm := BI.nm
    rw [List.take_length] at nm
    have nm' : names bs = ns := nm
    refine ⟨by rw [nm']; exact nsn, ?_, by rw [nm']; exact nsub, BI.nl, by rw [nm']; exact BI.ll⟩
    have := congrArg List.length nm
    rw [List.length_map] at this
    omega
end
end Up

/-! text Up23 -/
set_option Elab.async false
set_option linter.all false
set_option maxRecDepth 100000
set_option maxHeartbeats 4000000
/-! the law's own defs: orders -/
namespace Up
open PySem PySem.Spec PyProof.Rows L2 UpS
/-- how many orders may yet be seen, k units being left -/
def wt : Nat → Nat
  | 0 => 1
  | k + 1 => 1 + (k + 1) * wt k
def wts (n : Nat) : T2 → Nat
  | [] => 0
  | t :: ts => wt (n - t.length) + wts n ts
theorem wts_app (n : Nat) : ∀ a b : T2, wts n (a ++ b) = wts n a + wts n b
  | [], b => (Nat.zero_add _).symm
  | t :: a, b => by
    show wt _ + wts n (a ++ b) = wt _ + wts n a + wts n b
    rw [wts_app n a b]; omega
theorem wts_free (n : Nat) (here : T1) : ∀ free : T1, wts n (free.map fun o => here ++ [o]) = free.length * wt (n - (here.length + 1))
  | [] => (Nat.zero_mul _).symm
  | o :: free => by
    show wt (n - (here ++ [o]).length) + wts n (free.map _) = _
    rw [wts_free n here free, List.length_append, List.length_singleton, List.length_cons, Nat.succ_mul]; omega
structure Ord1 (b : Bk) (t : T1) : Prop where
  nd : t.Nodup
  sub : ∀ x ∈ t, x ∈ names b
def spOrders : Sp := fun vs H Q _ => vs.length = 1 ∧ ∃ (v : V) (b : Bk) (G : Hp), vs = [v] ∧ Ex G H ∧ Rp G (bkT b) v ∧ Sm b ∧ okB b = true ∧ b.length ≤ 4 ∧
  ∀ (ts : T2) (u : V) (G' H' : Hp), Gr N0 G H G' H' → Rp G' (.lst (ts.map tS)) u → ts.length ≤ 65 → (∀ t ∈ ts, Ord1 b t) → Q u H'
theorem come_room {b : Bk} (nd : (names b).Nodup) {here : T1} (O : Ord1 b here) : (comeM b here).Nodup ∧ (comeM b here).length + here.length ≤ b.length := by
  have h1 : (comeM b here).Nodup := by
    rw [come_eq nd]; exact List.Pairwise.filter _ nd
  refine ⟨h1, ?_⟩
  have h2 : (comeM b here ++ here).Nodup := List.nodup_append.mpr ⟨h1, O.nd, fun x hx y hy e => come_out b here x hx (e ▸ hy)⟩
  have := lenLe h2 (m := names b) fun x hx => by
    rcases List.mem_append.mp hx with z | z
    · exact come_in b here x z
    · exact O.sub x z
  unfold names at this
  rw [List.length_append, List.length_map] at this
  exact this
theorem wt_drop {n f k : Nat} (h : f + k ≤ n) : f * wt (n - (k + 1)) + 1 ≤ wt (n - k) := by
  rcases Nat.eq_zero_or_pos f with rfl | hf
  · rw [Nat.zero_mul]
    cases n - k with
    | zero => exact Nat.le_refl _
    | succ m => show 0 + 1 ≤ 1 + _; omega
  · obtain ⟨m, hm⟩ : ∃ m, n - k = m + 1 := ⟨n - k - 1, by omega⟩
    rw [hm, show n - (k + 1) = m by omega]
    show _ ≤ 1 + (m + 1) * wt m
    have : f * wt m ≤ (m + 1) * wt m := Nat.mul_le_mul_right _ (by omega)
    omega
theorem wt_four {n : Nat} (h : n ≤ 4) : wt n ≤ 65 := by
  have : n = 0 ∨ n = 1 ∨ n = 2 ∨ n = 3 ∨ n = 4 := by omega
  rcases this with rfl | rfl | rfl | rfl | rfl <;> decide
theorem wt_pos : ∀ n, 1 ≤ wt n
  | 0 => Nat.le_refl _
  | n + 1 => by show 1 ≤ 1 + _; omega
theorem len_wts (n : Nat) : ∀ ts : T2, ts.length ≤ wts n ts
  | [] => Nat.le_refl _
  | t :: ts => by
    have h1 := len_wts n ts
    have h2 := wt_pos (n - t.length)
    show ts.length + 1 ≤ wt _ + wts n ts
    omega
section
variable {P : Program} {w : World} {K : PySem.W.Frag} {mg : Str → Option Value} {base : Heap}
theorem ok_Lorders (M : Mo mg) (h : Df K mg "_law_orders" s_Lorders p_Lorders) (hC : At P w K mg base "_law_come" s_Lcome p_Lcome 1 (spD 2 fCome)) : At P w K mg base "_law_orders" s_Lorders p_Lorders 2 spOrders := by
  obtain ⟨f_Lcome, fd_Lcome, F_Lcome, b_Lcome, g_Lcome, G_Lcome⟩ := hC
  obtain ⟨f, fd, F, b, g⟩ := h
  refine ⟨f, fd, F, b, g, F.ok c_Lorders (fun vs H Q E h => h.1) (fun cdv A outer s H vs Q E hr h => ?_)⟩
  obtain ⟨_, v0, bk, G, rfl, e, rx, S, ok, h4, q⟩ := h
  refine ⟨_, (pss_cons
    (ps_par (i := 1) (j := 2) rfl c_Lorders.nd rfl rfl (by decide) rfl rfl (pa_cons (pe_lst (pa_cons (pe_tup pa_nil) pa_nil)) (pa_cons (pe_lst pa_nil) pa_nil)) (by rfl))
    (pss_cons
    (ps_while PassesOwn.never (pt_cmpR (k_neD K hr.units) (pv 1) (pe_lst pa_nil) (nomark _)) (pss_cons
        (ps_set (i := 3) c_Lorders.nd rfl (by first | exact .inl rfl | exact .inr rfl) (pe_bm0 PySem.F.plainAttrs_list PySem.F.slot_list_pop PySem.F.type_list_pop mt_pop (pv 1)))
        (pss_cons
        (ps_set (i := 4) c_Lorders.nd rfl (by first | exact .inl rfl | exact .inr rfl) (pe_call G_Lcome (hr.mono (by omega)) (by rfl) g_Lcome F_Lcome.kp b_Lcome .nil pass0 (pa_cons (pv 0) (pa_cons (pv 3) pa_nil))))
        (pss_cons
        (ps_if (pt_cmpR (k_eqD K hr.units) (pv 4) (pe_lst pa_nil) (nomark _)) (pss_one
            (ps_expr (pe_bm PySem.F.plainAttrs_list PySem.F.slot_list_append PySem.F.type_list_append mt_append (pv 2) (pa_cons (pv 3) pa_nil)))) pss_nil)
        (pss_one
        (ps_set (i := 1) c_Lorders.nd rfl (by first | exact .inl rfl | exact .inr rfl) (pe_op op_cat (pv 1) (pe_lc (own := [("_law_own", 5)]) rfl c_Lorders.nd (k_seq K (pv 4)) (blkOk_by (by kernel_rfl)) (fun _ _ _ _ _ => (pg_name (i := 5) c_Lorders.nd rfl (by first | exact .inl rfl | exact .inr rfl))) (fun _ _ _ _ _ => pts_nil) (fun _ _ _ _ _ => (pe_op (k_catA K) (pv 3) (pe_tup (pa_cons (pv 5) pa_nil))))))))))))
    (pss_one
    (ps_ret (pe_callB (k_sorted K w hr.units) (by rfl) M.sorted_ PyProof.Rows.boot_sorted (pa_cons (pv 2) pa_nil)))))), ?_⟩
  have okn := okB_names ok
  have ndn : (names bk).Nodup := S.nd
  refine sq_tparLL (gl_lst (ga_one (gd_tup ga_nil (Nat.zero_le _))) (by show 1 ≤ 100000; omega)) (gl_lst ga_nil (Nat.zero_le _)) e fun F0 vsF R0 vsR G2 H2 gg2 hFH hRH neFR hF2 hR2 hF3 hR3 rF rR => ?_
  refine s_whileH (fun m σ' H' => ∃ (G' : Hp) (F1 : Addr) (f rd : T2) (vsF vsR : List V) (h3 h4 : Option V), σ' = [some v0, some (.ref F1), some (.ref R0), h3, h4, none] ∧ Gr N0 G H G' H' ∧ H F1 = none ∧ F1 ≠ R0 ∧ G' F1 = none ∧ G' R0 = none ∧ H' F1 = some (.lst vsF) ∧ H' R0 = some (.lst vsR) ∧
      Rps G' (f.map tS) vsF ∧ Rps G' (rd.map tS) vsR ∧ (∀ t ∈ f, Ord1 bk t) ∧ (∀ t ∈ rd, Ord1 bk t) ∧ wts bk.length f ≤ m ∧ m + rd.length ≤ 65)
    (n := wt bk.length) ⟨G2, F0, [[]], [], vsF, vsR, none, none, rfl, gg2, hFH, neFR, hF2, hR2, hF3, hR3, rF, rR, (fun t ht => by rw [List.mem_singleton.mp ht]; exact ⟨List.nodup_nil, fun x hx => nomatch hx⟩), (fun t ht => nomatch ht), Nat.le_refl _, wt_four h4⟩ ?_
  rintro m σ' H' ⟨G', F1, f, rd, vsF, vsR, h3, h4', rfl, gg, hFH, neFR, gF', gR', hF', hR', rF, rR, hf, hrd, hm, hm2⟩
  have okf : okT f = true := okT_of okn fun t ht => (hf t ht).sub
  refine GT.own (G := G') (p := F1) (o := .lst vsF) (b := !f.isEmpty) ?_ gg.gh gF' hF' (by intro _ z; cases z) _ fun G3 H3 g3 => ?_
  · have rl : Rp (upd G' F1 (.lst vsF)) (.lst (f.map tS)) (.ref F1) := .lst upd_same (rF.mono (Ex.new gF'))
    exact gt_B (gd_neNilT (gd_var (σ := [some v0, some (V.ref F1), some (V.ref R0), h3, h4', none]) (i := 1) rfl rl) okf)
  have hF3' := g3.at0 hF'
  have hR3' := g3.at0 hR'
  have gF3 := g3.off gF' hF'
  have gR3 := g3.off gR' hR'
  have gg3 := gg.trans g3
  rcases List.eq_nil_or_concat f with rfl | ⟨f0, here, rfl⟩
  · refine iteF ?_
    have gs := gg3.seal hRH hR3'
    have rr : Rp (upd G3 R0 (.lst vsR)) (.lst (rd.map tS)) (.ref R0) := .lst upd_same ((rR.mono g3.gg).mono (Ex.new gR3))
    refine (GL.gd (gl_cb (ga_one (gd_var (i := 2) rfl rr)) (rl_sortT (.inl rfl) (by omega)))) H3 gs.gh _ fun v G5 H5 g5 r5 => q (isort ltT rd) v G5 H5 (gs.trans g5) r5 (by rw [len_isort]; omega) fun t ht => hrd t (mem_isort.mp ht)
  · simp only [List.concat_eq_append] at hm hf rF okf ⊢
    rw [show (!(f0 ++ [here]).isEmpty) = true by simp]
    refine iteT ?_
    rw [List.map_append] at rF
    obtain ⟨us, v3, rfl, ru, r3⟩ := rps_snoc rF
    have Oh := hf here (List.mem_append_right _ (List.mem_singleton.mpr rfl))
    obtain ⟨cn, cr⟩ := come_room ndn Oh
    have wd := wt_drop cr
    rw [wts_app] at hm
    have hm' : wts bk.length f0 + (wt (bk.length - here.length) + 0) ≤ m := hm
    have fl := len_wts bk.length f0
    have ul : us.length = f0.length := by have := ru.len; rw [List.length_map] at this; exact this.symm
    refine ⟨fun σ'' H'' => ∃ m', m' < m ∧ _, fun _ _ z => z, ?_⟩
    refine e_pop rfl hF3' ?_
    have gg5 := gg3.put (o := .lst us) (.inl hFH) gF3
    have hR5 : (upd H3 F1 (.lst us)) R0 = some (.lst vsR) := by rw [upd_ne (Ne.symm neFR)]; exact hR3'
    refine sq_asg (gd_call (ga_two (gd_var (i := 0) rfl (rx.mono gg3.gg)) (gd_var (i := 3) rfl (r3.mono g3.gg))) rfl ⟨bk, here, rfl, S, ok, rfl⟩) gg5.gh fun v4 G6 H6 g6 r4 => ?_
    have gg6 := gg5.trans g6
    have hF6 := g6.at0 (show (upd H3 F1 (.lst us)) F1 = some (.lst us) from upd_same)
    have gF6 := g6.off gF3 (show (upd H3 F1 (.lst us)) F1 = some (.lst us) from upd_same)
    have hR6 := g6.at0 hR5
    have gR6 := g6.off gR3 hR5
    have r36 := (r3.mono g3.gg).mono g6.gg
    have okc : okS (comeM bk here) = true := okT_mem (okT_of (ts := [comeM bk here]) okn fun t ht => by rw [List.mem_singleton.mp ht]; exact come_in bk here) (List.mem_singleton.mpr rfl)
    refine sq_ifK (fun σ'' H'' => ∃ (G'' : Hp) (rd : T2) (vsR : List V), σ'' = [some v0, some (.ref F1), some (.ref R0), some v3, some v4, none] ∧ Gr N0 G H G'' H'' ∧ Ex G6 G'' ∧ G'' F1 = none ∧ G'' R0 = none ∧ H'' F1 = some (.lst us) ∧ H'' R0 = some (.lst vsR) ∧ Rps G'' (rd.map tS) vsR ∧ (∀ t ∈ rd, Ord1 bk t) ∧ m + rd.length ≤ 66)
      (b := (comeM bk here).isEmpty) (gt_B ?_) gg6.gh ?_ (fun _ G7 H7 g7 Z hZ => ?_) (fun _ G7 H7 g7 Z hZ => ?_)
    · have := gd_op (gd_var (σ := [some v0, some (.ref F1), some (.ref R0), some v3, some v4, none]) (i := 4) rfl r4) (gd_lst ga_nil (Nat.zero_le _)) (ro_eqNil (K := K) (flat_strs okc) (by rw [pds_strs]; exact depth_lS _))
      rw [List.isEmpty_map] at this
      exact this
    · rintro σ3 H7 ⟨G7, rd, vsR, rfl, gg7, e67, gF7, gR7, hF7, hR7, rR7, hrd7, hm7⟩
      refine ⟨_, rfl, ?_⟩
      refine (gl_lc0 (j := 5) (xs := comeM bk here) (e := .str) (f := fun o => tS (here ++ [o])) (gi_seqL (gd_var (i := 4) rfl (r4.mono e67))) (by omega) (fun _ => rfl) fun o ho G8 v8 e8 r8 => gd_is (gd_op (gd_var (i := 3) rfl ((r36.mono e67).mono e8)) (gd_tup (ga_one (gd_var (i := 5) rfl r8)) (by show 1 ≤ 100000; omega)) (ro_catT (by rw [List.length_map]; show here.length + 1 ≤ 100000; omega))) (tS_snoc here o)) H7 gg7.gh _ fun c vs G8 H8 g8 hc1 hc2 hc3 rc => ?_
      have gg8 := gg7.trans g8
      have vl : vs.length = (comeM bk here).length := by have := rc.len; rw [List.length_map] at this; exact this.symm
      refine ⟨F1, c, us, vs, rfl, rfl, g8.at0 hF7, hc3, sz_of (by omega), fun n hn => ?_⟩
      have gn := gg8.gh.free hn
      have gg9 := gg8.put (p := n) (o := .lst (us ++ vs)) (.inl (gg8.free hn)) gn
      have hR8 := g8.at0 hR7
      have nR : n ≠ R0 := fun z => by rw [z, hR8] at hn; cases hn
      refine ⟨wts bk.length (f0 ++ (comeM bk here).map fun o => here ++ [o]), ?_, G8, n, f0 ++ (comeM bk here).map (fun o => here ++ [o]), rd, us ++ vs, vsR, _, _, rfl, gg9, gg8.free hn, nR, gn, g8.off gR7 hR7, upd_same, by rw [upd_ne (Ne.symm nR)]; exact hR8, ?_, rR7.mono g8.gg, fun t ht => ?_, hrd7, Nat.le_refl _, ?_⟩
      · rw [wts_app, wts_free]; omega
      · rw [List.map_append, List.map_map]
        exact ((ru.mono g3.gg).mono (g6.gg.trans (e67.trans g8.gg))).append rc
      · rcases List.mem_append.mp ht with z | z
        · exact hf t (List.mem_append_left _ z)
        · obtain ⟨o, ho, rfl⟩ := List.mem_map.mp z
          refine ⟨nodup_snoc Oh.nd (come_out bk here o ho), fun x hx => ?_⟩
          rcases List.mem_append.mp hx with y | y
          · exact Oh.sub x y
          · rw [List.mem_singleton.mp y]; exact come_in bk here o ho
      · rw [wts_app, wts_free]; omega
    · have vl : vsR.length = rd.length := by have := rR.len; rw [List.length_map] at this; exact this.symm
      have hR7 := g7.at0 hR6
      refine s_append (d := tS here) (i := 2) rfl (gd_var (i := 3) rfl (r36.mono g7.gg)) (gg6.trans g7).gh hR7 (by omega) fun v8 G8 H8 g8 r8 hR8 => ?_
      have gg8 := ((gg6.trans g7).trans g8).put (p := R0) (o := .lst (vsR ++ [v8])) (.inl hRH) (g8.off (g7.off gR6 hR6) hR7)
      refine hZ _ _ ⟨G8, rd ++ [here], vsR ++ [v8], rfl, gg8, g7.gg.trans g8.gg, g8.off (g7.off gF6 hF6) (g7.at0 hF6), g8.off (g7.off gR6 hR6) hR7, by rw [upd_ne neFR]; exact g8.at0 (g7.at0 hF6), upd_same, ?_, fun t ht => ?_, by rw [List.length_append, List.length_singleton]; omega⟩
      · rw [List.map_append]
        exact (rR.mono (g3.gg.trans (g6.gg.trans (g7.gg.trans g8.gg)))).append (.one r8)
      · rcases List.mem_append.mp ht with z | z
        · exact hrd t z
        · rw [List.mem_singleton.mp z]; exact Oh
    · exact hZ _ _ ⟨G7, rd, vsR, rfl, gg6.trans g7, g7.gg, g7.off gF6 hF6, g7.off gR6 hR6, g7.at0 hF6, g7.at0 hR6, rR.mono (g3.gg.trans (g6.gg.trans g7.gg)), hrd, by omega⟩
end
end Up

/-! text Up24 -/
set_option Elab.async false
set_option linter.all false
set_option maxRecDepth 100000
set_option maxHeartbeats 4000000
/-! the law's own defs: box -/
namespace Up
open PySem PySem.Spec PyProof.Rows L2 UpS
def spBox : Sp := fun vs H Q _ => vs.length = 2 ∧ ∃ (v : V) (xs : List Int) (k : Nat) (G : Hp), vs = [v, .int (k : Int)] ∧ Ex G H ∧ Rp G (.lst (xs.map .int)) v ∧ k < xs.length ∧ k ≤ 1000 ∧
  ∀ (p : Addr) (G' H' : Hp), Gr N0 G H G' H' → H p = none → G' p = none → Urn 0 H' p → Q (.ref p) H'
theorem bit_small (k : Bool) : -(2 ^ 64) < (if k = true then (1 : Int) else 0) ∧ (if k = true then (1 : Int) else 0) < 2 ^ 64 := by cases k <;> decide
section
variable {K : PySem.W.Frag} {σ : L2.St} {G H : Hp} {te : TE}
theorem rb_intB {k : Bool} : RB (fun xs H Q => (∃ i, xs = [V.int i] ∧ Q (V.int i) H) ∨ ∃ k, xs = [V.bl k] ∧ Q (V.int (if k then 1 else 0)) H) [.bl k] (.int (if k then 1 else 0)) := fun G vs h H e Q q => by
  obtain ⟨a, rfl, r⟩ := h.i1
  cases r
  exact .inr ⟨_, rfl, q _ G H (.refl e) (.int _)⟩
theorem rb_abs {i : Int} : RB (fun xs H Q => ∃ i, xs = [V.int i] ∧ Q (V.int (if i < 0 then -i else i)) H) [.int i] (.int (if i < 0 then -i else i)) := fun G vs h H e Q q => by
  obtain ⟨a, rfl, r⟩ := h.i1
  cases r
  exact ⟨_, rfl, q _ G H (.refl e) (.int _)⟩
end
section
variable {P : Program} {w : World} {K : PySem.W.Frag} {mg : Str → Option Value} {base : Heap}
theorem ok_Lbox (M : Mo mg) (h : Df K mg "_law_box" s_Lbox p_Lbox) : At P w K mg base "_law_box" s_Lbox p_Lbox 1 spBox := by
  obtain ⟨f, fd, F, b, g⟩ := h
  refine ⟨f, fd, F, b, g, F.ok c_Lbox (fun vs H Q E h => h.1) (fun cdv A outer s H vs Q E hr h => ?_)⟩
  obtain ⟨_, v0, xs, k, G, rfl, e, r0, hk, hk2, q⟩ := h
  refine ⟨_, (pss_cons
    (ps_set (i := 2) c_Lbox.nd rfl (by first | exact .inl rfl | exact .inr rfl) (pe_ifExp (pt_cmpR op_lt (pv 1) (pe_callB (k_len K) (by rfl) M.len_ PySem.boot_len (pa_cons (pv 0) pa_nil)) (nomark _)) (pe_ix (k_ixL K) (pv 0) (pv 1) (fun _ _ => rfl)) pe_int))
    (pss_one
    (ps_ret (pe_lst (pa_cons (pe_op op_mul (pe_callB call_abs (by rfl) M.abs_ PyProof.Rows.boot_abs (pa_cons (pv 2) pa_nil)) (pe_callTy call_int1 (by rfl) M.int_ PyProof.Rows.boot_int (pa_cons (pe_cmpR op_ge (pe_callB call_abs (by rfl) M.abs_ PyProof.Rows.boot_abs (pa_cons (pv 2) pa_nil)) (pe_op op_pow pe_int pe_int) (nomark _)) pa_nil))) (pa_cons (pe_op op_add (pe_op op_add (pe_op op_modN (pe_callTy call_int1 (by rfl) M.int_ PyProof.Rows.boot_int (pa_cons (pv 2) pa_nil)) pe_int) (pe_op op_mul pe_int (pv 1))) pe_int) (pa_cons pe_int pa_nil))))))), ?_⟩
  obtain ⟨x, hx⟩ : ∃ x, xs[k]? = some x := ⟨_, List.getElem?_eq_getElem hk⟩
  refine sq_asg (d := .int x) (gd_if (b := true) (gt_is (gt_B (gd_op (r := rI0 fun i j => V.bl (decide (i < j))) (gd_var (i := 1) rfl (.int _)) (gd_cb (ga_one (gd_var (i := 0) rfl r0)) rb_lenL) ro_cmp)) (by rw [List.length_map]; exact decide_eq_true (by omega)))
    (fun _ => gd_op (gd_var (i := 0) rfl r0) (gd_var (i := 1) rfl (.int _)) (ro_ixL (atI_nat (by rw [List.getElem?_map, hx]; rfl)))) (fun z => nomatch z)) e fun v2 G1 H1 g1 r2 => ?_
  cases r2
  refine (gl_lst (ga_cons (gd_op (gd_cb (ga_one (gd_var (i := 2) rfl (.int _))) rb_abs) (gd_cb (ga_one (gd_op (r := rI0 fun i j => V.bl (decide (j ≤ i))) (gd_cb (ga_one (gd_var (i := 2) rfl (.int _))) rb_abs) (gd_op (r := rI CPow fun i j => V.int (i ^ j.toNat)) (gd_c (.int 10)) (gd_c (.int 18)) (ro_intC (by unfold CPow; decide))) ro_cmp)) rb_intB) (ro_mulS (.inr (bit_small _))))
    (ga_cons (gd_op (r := rI0 fun i j => V.int (i + j)) (gd_op (r := rI0 fun i j => V.int (i + j)) (gd_op (r := rI (fun _ j => j ≠ 0) fun i j => V.int (i.fmod j)) (gd_cb (ga_one (gd_var (i := 2) rfl (.int _))) rb_int) (gd_c (.int 2305843009213693951)) (ro_intC (by decide))) (gd_op (gd_c (.int 39373)) (gd_var (i := 1) rfl (.int _)) (ro_mulS (.inl (by decide)))) ro_int) (gd_c (.int 1052145)) ro_int) (ga_one (gd_c (.int 0))))) (by show 3 ≤ 100000; omega)) H1 g1.gh _ fun p vs G2 H2 g2 hp1 hp2 hp3 rp => q p G2 H2 (g1.trans g2) (g1.free hp1) hp2 ?_
  obtain ⟨a, b, c, rfl, ra, rb, rc⟩ := rp.i3
  cases ra; cases rb; cases rc
  obtain ⟨f1, _⟩ := fmod_nat (x := x) (m := 2305843009213693951) (by decide)
  have f1' : x.fmod 2305843009213693951 = ((x.fmod 2305843009213693951).toNat : Int) := f1
  obtain ⟨na, hna⟩ : ∃ na : Nat, (if x < 0 then -x else x) * (if decide ((10 : Int) ^ (18 : Int).toNat ≤ if x < 0 then -x else x) = true then 1 else 0) = (na : Int) := by
    by_cases z : x < 0
    · rw [if_pos z]
      split
      · exact ⟨(-x).toNat, by omega⟩
      · exact ⟨0, by omega⟩
    · rw [if_neg z]
      split
      · exact ⟨x.toNat, by omega⟩
      · exact ⟨0, by omega⟩
  refine ⟨na, (x.fmod 2305843009213693951).toNat + 39373 * k + 1052145, 0, ?_, Nat.le_refl _⟩
  rw [hp3, hna, f1']
  congr 4
end
end Up

/-! text Up25 -/
set_option Elab.async false
set_option linter.all false
set_option maxRecDepth 100000
set_option maxHeartbeats 4000000
/-! the law's own defs: cells -/
namespace Up
open PySem PySem.Spec PyProof.Rows L2 UpS
theorem ints_rps {G : Hp} : ∀ {xs : List Int} {vs : List V}, Rps G (xs.map D.int) vs → vs = xs.map V.int := Rps.ints
/-- the script: a list of ints, wherever it stands -/
def spCells (K : PySem.W.Frag) : Sp := fun vs H Q _ => vs.length = 2 ∧ ∃ (v : V) (a : Addr) (xs : List Int) (G : Hp), vs = [v, .int 3] ∧ v = .ref a ∧ Ex G H ∧ (∀ H', Ex G H' → SqL K H' a (xs.map V.int)) ∧ xs.length ≤ 100000 ∧
  ∀ (ys : List Int) (u : V) (G' H' : Hp), Gr N0 G H G' H' → Rp G' (.lst (ys.map .int)) u → 1 ≤ ys.length → ys.length ≤ 3 → Q u H'
theorem gl_slQ {K : PySem.W.Frag} {σ : L2.St} {G : Hp} {tl th : TO} {lo hi : Option Int} {i : Nat} {v : V} {a : Addr} {vs : List V} {ds : List D} (h : σ[i]? = some (some v)) (hv : v = .ref a) (hS : ∀ H', Ex G H' → SqL K H' a vs) (r : Rps G ds vs) (hl : GO tl σ G lo) (hh : GO th σ G hi) : GL (tSl (rSlL K) (tVar i) tl th) σ G (cutD ds lo hi) := fun H e Q q =>
  ⟨_, h, hl H e _ fun G2 H2 g2 => (hh.mono g2.gg) H2 g2.gh _ fun G3 H3 g3 => by
    have g := g2.trans g3
    exact ⟨a, vs, hv, hS H3 (g.gg.trans g.gh), fun p hp => q p _ G3 _ (g.put (.inl (g.free hp)) (g.gh.free hp)) (g.free hp) (g.gh.free hp) upd_same (cut_rps (r.mono g.gg) lo hi)⟩⟩
theorem cutI (xs : List Int) (lo hi : Option Int) : ∃ ys : List Int, cutD (xs.map D.int) lo hi = ys.map D.int := ⟨_, by unfold cutD; rw [← List.map_drop, ← List.map_take]⟩
section
variable {P : Program} {w : World} {K : PySem.W.Frag} {mg : Str → Option Value} {base : Heap}
theorem ok_Lcells (M : Mo mg) (h : Df K mg "_law_cells" s_Lcells p_Lcells) : At P w K mg base "_law_cells" s_Lcells p_Lcells 1 (spCells K) := by
  obtain ⟨f, fd, F, b, g⟩ := h
  refine ⟨f, fd, F, b, g, F.ok c_Lcells (fun vs H Q E h => h.1) (fun cdv A outer s H vs Q E hr h => ?_)⟩
  obtain ⟨_, v0, a0, xs, G, rfl, hv0, e, r0, hx, q⟩ := h
  refine ⟨_, (pss_cons
    (ps_set (i := 2) c_Lcells.nd rfl (by first | exact .inl rfl | exact .inr rfl) (pe_orT (pe_callTy (k_list K) (by rfl) M.list_ PyProof.Rows.boot_list (pa_cons (pe_slice (k_slL K) (pv 0) po_none (po_some (pv 1))) pa_nil)) (pe_one (pe_lst (pa_cons pe_int pa_nil)))))
    (pss_cons
    (ps_for PassesOwn.never rfl (k_enumU K (by rfl) M.enumerate_ (pa_cons (pe_slice (k_slL K) (pv 0) (po_some (pv 1)) (po_some pe_int)) pa_nil)) (k_tup2 K (pgs_cons (pg_name (i := 3) c_Lcells.nd rfl (by first | exact .inl rfl | exact .inr rfl)) (pgs_cons (pg_name (i := 4) c_Lcells.nd rfl (by first | exact .inl rfl | exact .inr rfl)) pgs_nil))) (pss_cons
        (ps_set (i := 5) c_Lcells.nd rfl (by first | exact .inl rfl | exact .inr rfl) (pe_op op_modN (pe_callTy call_int1 (by rfl) M.int_ PyProof.Rows.boot_int (pa_cons (pv 3) pa_nil)) (pv 1)))
        (pss_one
        (ps_asg (pe_op op_add (pe_ix (k_ixL K) (pv 2) (pv 5) (fun _ _ => rfl)) (pe_op op_mul (pv 4) (pe_op op_add (pv 3) pe_int))) (pg_sub (pv 2) (pv 5) set_list)))))
    (pss_one
    (ps_ret (pv 2))))), ?_⟩
  -- the first cells
  have first : ∀ (z : L2.St → Hp → Prop) , (∀ (p : Addr) (ys : List Int) (G1 H1 : Hp), Gr N0 G H G1 H1 → H p = none → G1 p = none → H1 p = some (.lst (ys.map V.int)) → 1 ≤ ys.length → ys.length ≤ 3 → (3 < xs.length → ys.length = 3) → z ((start n_Lcells [v0, .int 3]).set 2 (some (.ref p))) H1) →
      tOrT K (tCB (rLstU K) (tCons (tSl (rSlL K) (tVar 0) tNoPart (tPart (tVar 1))) tNil)) (tLst (tCons (tC (.int 0)) tNil)) (start n_Lcells [v0, .int 3]) H (fun v H1 => z ((start n_Lcells [v0, .int 3]).set 2 (some v)) H1) := fun z hz => by
    refine (gl_cb (ga_one (GL.gd (gl_slQ (i := 0) (ds := xs.map D.int) rfl hv0 r0 (Rps.of_ints xs) go_none (go_some (gd_var (i := 1) rfl (.int _)))))) (rl_list (.inr rfl))) H e _ fun p vs G1 H1 g1 hp1 hp2 hp3 rp => ?_
    have ec : cutD (xs.map D.int) none (some (3 : Int)) = (xs.take 3).map D.int := by
      have := cutD_to (ds := xs.map D.int) 3
      rw [← List.map_take] at this
      exact this
    rw [ec] at rp
    obtain rfl := rp.ints
    refine ⟨!(xs.take 3).isEmpty, .inl ⟨_, SqL.of hp3, by rw [List.isEmpty_map]⟩, ?_⟩
    have hl : (xs.take 3).length = min 3 xs.length := List.length_take
    cases hz9 : (xs.take 3).isEmpty with
    | false =>
      refine iteT (hz p _ G1 H1 g1 hp1 hp2 hp3 ?_ (by omega) (by omega))
      have : (xs.take 3).length ≠ 0 := fun h9 => by rw [List.length_eq_zero_iff.mp h9] at hz9; cases hz9
      omega
    | true =>
      refine iteF ((gl_lst (ga_one (gd_c (.int 0))) (by show 1 ≤ 100000; omega)) H1 g1.gh _ fun p2 vs2 G2 H2 g2 hq1 hq2 hq3 rq => ?_)
      have rq' : Rps G2 ([(0 : Int)].map D.int) vs2 := rq
      obtain rfl := rq'.ints
      have : (xs.take 3).length = 0 := by rw [List.isEmpty_iff.mp hz9]; rfl
      exact hz p2 [0] G2 H2 (g1.trans g2) (g1.free hq1) hq2 hq3 (by show 1 ≤ 1; omega) (by show 1 ≤ 3; omega) (fun h9 => by omega)
  refine first _ fun p ys G1 H1 g1 hpH gp hp hy1 hy3 hy4 => ?_
  obtain ⟨zs, hzs⟩ := cutI xs (some 3) (some 63)
  have hzl : 0 < zs.length → 3 < xs.length := fun h9 => by
    have h1 : (cutD (xs.map D.int) (some ((3 : Nat) : Int)) (some ((63 : Nat) : Int))).length = zs.length := by
      have := congrArg List.length hzs
      rw [List.length_map] at this
      exact this
    rw [cutD_mid, List.length_take, List.length_drop, List.length_map] at h1
    omega
  have ge := gi_enum (K := K) (ds := zs.map D.int) (σ := [some v0, some (.int 3), some (.ref p), none, none, none]) (G := G1) (.inl rfl) (ga_one (gd_is (GL.gd (gl_slQ (K := K) (i := 0) (ds := xs.map D.int) rfl hv0 (fun H' e' => r0 H' (g1.gg.trans e')) (Rps.of_ints xs) (go_some (gd_var (i := 1) rfl (.int 3))) (go_some (gd_c (.int 63))))) (by rw [hzs])))
  refine sd_for ge g1.gh fun G2 H2 g2 => ?_
  have gg2 := g1.trans g2
  refine ⟨fun i σ' G' H' => ∃ (ys : List Int) (h3 h4 h5 : Option V), σ' = [some v0, some (.int 3), some (.ref p), h3, h4, h5] ∧ Gr N0 G H G' H' ∧ Ex G2 G' ∧ G' p = none ∧ H' p = some (.lst (ys.map V.int)) ∧ 1 ≤ ys.length ∧ ys.length ≤ 3 ∧ (3 < xs.length → ys.length = 3),
    ⟨ys, none, none, none, rfl, gg2, .refl _, g2.off gp hp, g2.at0 hp, hy1, hy3, hy4⟩, ?_, ?_, ?_⟩
  · rintro i σ' G' H' ⟨ys, h3, h4, h5, rfl, gg, e2, _⟩
    exact ⟨e2, gg.gh⟩
  · rintro i dd σ' G' H' v G3 H3 hdd ⟨ys, h3, h4, h5, rfl, gg, e2, gp', hp', k1, k2, k3⟩ g3 r3
    obtain ⟨x, hxx, rfl⟩ := enumD_at hdd
    obtain ⟨c, hc, rfl⟩ := mem_seq hxx
    have hin : i < zs.length := (List.getElem?_eq_some_iff.mp hc).1
    have hy := k3 (hzl (by omega))
    have gg3 := gg.trans g3
    have hp3 := g3.at0 hp'
    have gp3 := g3.off gp' hp'
    refine tg_tup2 r3 gg3.gh fun va vb ra rb => ?_
    cases ra; cases rb
    obtain ⟨f1, f2⟩ := fmod_nat (x := (i : Int)) (m := 3) (by decide)
    have f1' : ((i : Int)).fmod 3 = ((((i : Int)).fmod 3).toNat : Int) := f1
    generalize (((i : Int)).fmod 3).toNat = j at f1' f2
    refine sq_asg (d := .int (j : Int)) (gd_is (gd_op (r := rI (fun _ j => j ≠ 0) fun i j => V.int (i.fmod j)) (gd_cb (ga_one (gd_var (i := 3) rfl (.int _))) rb_int) (gd_var (i := 1) rfl (.int 3)) (ro_intC (by decide))) (by rw [f1'])) gg3.gh fun v5 G4 H4 g4 r5 => ?_
    cases r5
    have gg4 := gg3.trans g4
    have hp4 := g4.at0 hp3
    have gp4 := g4.off gp3 hp3
    obtain ⟨y, hyy⟩ : ∃ y, ys[j]? = some y := ⟨_, List.getElem?_eq_getElem (by omega)⟩
    have il : (i : Int) + 2 < 2 ^ 64 := by
      have : zs.length ≤ 100000 := by
        have h9 := congrArg List.length hzs
        unfold cutD at h9
        rw [List.length_take, List.length_drop, List.length_map, List.length_map] at h9
        omega
      omega
    refine GD.ownI (σ := [some v0, some (.int 3), some (.ref p), some (.int (i : Int)), some (.int c), some (.int (j : Int))]) (G := G4) (p := p) (gd_op (r := rI0 fun i j => V.int (i + j)) (gd_op (gd_var (i := 2) rfl (.lst (ds := ys.map D.int) upd_same (Rps.of_ints ys))) (gd_var (i := 5) rfl (.int _)) (ro_ixL (d := .int y) (atI_nat (by rw [List.getElem?_map, hyy]; rfl)))) (gd_op (gd_var (i := 4) rfl (.int c)) (gd_op (r := rI0 fun i j => V.int (i + j)) (gd_var (i := 3) rfl (.int _)) (gd_c (.int 2)) ro_int) (ro_mulS (.inr ⟨by omega, il⟩))) ro_int) gg4.gh gp4 hp4 (fun _ z => by cases z) _ fun G5 H5 g5 => ?_
    refine ⟨_, rfl, _, rfl, p, _, (j : Int), j, rfl, rfl, g5.at0 hp4, ?_, ?_⟩
    · rw [List.length_map]
      unfold ixN
      rw [if_pos (by omega), if_pos (by omega)]; rfl
    · have gg5 := (gg4.trans g5).put (p := p) (o := .lst ((ys.map V.int).set j (.int (y + c * ((i : Int) + 2))))) (.inl hpH) (g5.off gp4 hp4)
      refine ⟨G5, ys.set j (y + c * ((i : Int) + 2)), _, _, _, rfl, gg5, e2.trans (g3.gg.trans (g4.gg.trans g5.gg)), g5.off gp4 hp4, ?_, by rw [List.length_set]; exact k1, by rw [List.length_set]; exact k2, by rw [List.length_set]; exact k3⟩
      rw [upd_same, List.map_set]
  · rintro σ' G' H' ⟨ys, h3, h4, h5, rfl, gg, e2, gp', hp', k1, k2, k3⟩
    have gs := gg.seal hpH hp'
    exact ⟨_, rfl, q ys (.ref p) _ H' gs (.lst upd_same (Rps.of_ints ys)) k1 k2⟩
end
end Up

/-! text Up26 -/
set_option Elab.async false
set_option linter.all false
set_option maxRecDepth 100000
set_option maxHeartbeats 4000000
/-! drawn books are fine; what the law asks of them -/
namespace Up
open PySem PySem.Spec PyProof.Rows L2 UpS
theorem ok_eight : okS eight = true := by decide +kernel
theorem okS_sub {ns xs : T1} (h : okS ns = true) (hs : ∀ x ∈ xs, x ∈ ns) : okS xs = true := okT_mem (okT_of (ts := [xs]) h fun t ht => by rw [List.mem_singleton.mp ht]; exact hs) (List.mem_singleton.mpr rfl)
theorem Drawn.sm {b : Bk} (D : Drawn b) : Sm b := ⟨D.nd, by have := D.len; omega, fun p hp => by have := D.nl p hp; omega, fun p hp n hn => by have := (D.ll p hp n hn).1; omega⟩
theorem Drawn.okB {b : Bk} (D : Drawn b) : okB b = true := by
  unfold Up.okB
  refine List.all_eq_true.mpr fun p hp => Bool.and_eq_true_iff.mpr ⟨?_, ?_⟩
  · have h := okS_sub ok_eight (xs := [p.1]) fun x hx => by
      rw [List.mem_singleton.mp hx]; exact D.sub _ (List.mem_map.mpr ⟨p, hp, rfl⟩)
    unfold okS at h
    exact List.all_eq_true.mp h p.1 (List.mem_singleton.mpr rfl)
  · exact okT_of ok_eight fun n hn x hx => D.sub x ((D.ll p hp n hn).2 x hx)
theorem paths_few (b : Bk) : (allPaths b).length ≤ 2 ^ b.length := by
  have h1 := (stand_inv b).few
  unfold allPaths
  refine Nat.le_trans ?_ h1
  rw [List.length_map]
  refine Nat.le_trans (List.length_filterMap_le _ _) ?_
  rw [len_isort]
  unfold standK
  rw [List.length_map]
  exact Nat.le_refl _
theorem Drawn.fine {b : Bk} (D : Drawn b) : Fine b := ⟨D.sm, okB_names D.okB, by
  have h1 := paths_few b
  have h2 : 2 ^ b.length ≤ 2 ^ 4 := Nat.pow_le_pow_right (by decide) D.len
  omega⟩
/-- what fewest_lists tells of a fine book -/
theorem told_all {b : Bk} (F : Fine b) : ∃ rolls : T2, D.tup ((fewestM b).map oD) = tT rolls ∧ rolls.length = (pathChains b).length ∧ (∀ l ∈ rolls, l.Nodup ∧ ∀ x ∈ l, x ∈ names b) ∧ readM rolls = standsM b := by
  obtain ⟨rolls, h1, h2, h3, h4⟩ := told_lists F
  refine ⟨rolls, ?_, h2, fun l hl => ⟨(h3 l hl).nodup, (h3 l hl).names⟩, read_all F.sm.nd h3 h4⟩
  rw [h1, List.map_map]
  rfl
end Up

/-! text Up27 -/
set_option Elab.async false
set_option linter.all false
set_option maxRecDepth 1000000
set_option maxHeartbeats 4000000
/-! evaluated: the books made of two orders, the books by hand -/
namespace Up
open PySem PySem.Spec PyProof.Rows L2 UpS
def abc : T1 := ["a", "b", "c"]
def pairBook (lone mate : T1) : Bk := abc.map fun own => (own, isort ltT ((lowerM ((readM [lone, mate]).filter fun lot => decide (own ∈ lot))).map fun lot => lot.filter fun far => !decide (far = own)))
def pairOk (lone mate : T1) : Bool := decide ((pathChains (pairBook lone mate)).length = if lone = mate then 1 else 2) && okB (pairBook lone mate) && (pairBook lone mate).all fun p => decide (p.2.length ≤ 100) && p.2.all fun n => decide (n.length ≤ 100)
theorem pairs_ok : (((linesM abc).take 2).all fun lone => (linesM abc).all fun mate => pairOk lone mate) = true := by decide +kernel
theorem lines_ok : ((linesM abc).all fun l => decide (l.length = 3) && l.all fun x => decide (x ∈ abc)) = true := by decide +kernel
def rowsH : List Str := ["a 0; b 0; c a b", "a 0; b a; c a+b; z -", "a 0; b 0; c 0; d a+b a+c b+c", "a 0; b 0; c a+b", "a 0; b a; c a; d b c", "a 0; b 0; c 0; d a+b a+c; r c"]
def dueH : List Nat := [2, 1, 3, 2, 2, 3]
def smB (b : Bk) : Bool := decide ((names b).Nodup) && decide (b.length ≤ 5) && okB b && b.all fun p => decide (p.2.length ≤ 100) && p.2.all fun n => decide (n.length ≤ 100)
theorem hand_ok : (rowsH.all fun s => wordsOk s && smB (wordsM s)) = true := by decide +kernel
theorem hand_due : rowsH.map (fun s => (pathChains (wordsM s)).length) = dueH := by decide +kernel
def chainB : Str := "a 0; b a; c b; z -"
theorem chain_ok : (wordsOk chainB && smB (wordsM chainB)) = true := by decide +kernel
theorem chain_told : fewestM (wordsM chainB) = [some abc] := by decide +kernel
theorem told_nil : fewestM [] = [] := by decide +kernel
theorem told_a0 : fewestM [((("a" : Str)), ([] : T2))] = [] := by decide +kernel
theorem told_a1 : fewestM [((("a" : Str)), ([[]] : T2))] = [some [("a" : Str)]] := by decide +kernel
end Up

/-! text Up28 -/
set_option Elab.async false
set_option linter.all false
set_option maxRecDepth 1000000
set_option maxHeartbeats 4000000
/-! evaluated: the wide book -/
namespace Up
open PySem PySem.Spec PyProof.Rows L2 UpS
def wideS : Str := "a 0; b 0; c 0; d 0; e 0; f 0; g 0; h a b c d e f g"
def wideN : List Str := ["a", "b", "c", "d", "e", "f", "g"]
theorem wide_ok : wordsOk wideS = true := by decide +kernel
theorem wide_paths : allPaths (wordsM wideS) = isort ltT (wideN.map (fun x : Str => ([x] : T1)) ++ wideN.map (fun x : Str => ([x, "h"] : T1))) := by decide +kernel
theorem wide_chains : (pathChains (wordsM wideS)).length = 7 := by
  unfold pathChains
  rw [wide_paths]
  decide +kernel
end Up

/-! text Up29 -/
set_option Elab.async false
set_option linter.all false
set_option maxRecDepth 1000000
set_option maxHeartbeats 4000000
/-! the wide book: what is told of it -/
namespace Up
open PySem PySem.Spec PyProof.Rows L2 UpS
theorem wide_heads : isort ltT ((fewestM (wordsM wideS)).map fun o => (o.getD []).take 2) = wideN.map (fun x : Str => ([x, "h"] : T1)) := by
  unfold fewestM pathChains
  rw [wide_paths]
  decide +kernel
theorem wide_sm : (decide ((names (wordsM wideS)).Nodup) && decide ((wordsM wideS).length ≤ 10) && okB (wordsM wideS) && (wordsM wideS).all fun p => decide (p.2.length ≤ 100) && p.2.all fun n => decide (n.length ≤ 100)) = true := by decide +kernel
theorem sm_of {b : Bk} {k : Nat} (hk : k ≤ 10) (h : (decide ((names b).Nodup) && decide (b.length ≤ k) && okB b && b.all fun p => decide (p.2.length ≤ 100) && p.2.all fun n => decide (n.length ≤ 100)) = true) : Sm b ∧ b.length ≤ k ∧ okB b = true := by
  rw [Bool.and_eq_true, Bool.and_eq_true, Bool.and_eq_true, decide_eq_true_eq, decide_eq_true_eq] at h
  obtain ⟨⟨⟨h1, h2⟩, h3⟩, h4⟩ := h
  refine ⟨⟨h1, by omega, fun p hp => ?_, fun p hp n hn => ?_⟩, h2, h3⟩
  · exact of_decide_eq_true (Bool.and_eq_true_iff.mp (List.all_eq_true.mp h4 p hp)).1
  · exact of_decide_eq_true (List.all_eq_true.mp (Bool.and_eq_true_iff.mp (List.all_eq_true.mp h4 p hp)).2 n hn)
theorem fine_of {b : Bk} (S : Sm b) (ok : okB b = true) (h : b.length ≤ 5) : Fine b := ⟨S, okB_names ok, by
  have h1 := paths_few b
  have h2 : 2 ^ b.length ≤ 2 ^ 5 := Nat.pow_le_pow_right (by decide) h
  omega⟩
theorem wide_fine : Fine (wordsM wideS) := by
  obtain ⟨S, _, ok⟩ := sm_of (Nat.le_refl 10) wide_sm
  refine ⟨S, okB_names ok, ?_⟩
  rw [wide_paths, len_isort, List.length_append, List.length_map, List.length_map]
  decide
end Up

/-! text Up30 -/
set_option Elab.async false
set_option linter.all false
set_option maxRecDepth 100000
set_option maxHeartbeats 4000000
/-! the law's own defs: right -/
namespace Up
open PySem PySem.Spec PyProof.Rows L2 UpS
section
variable {K : PySem.W.Frag} {σ : L2.St} {G H : Hp} {ta tb tc : TE} {tz : TS} {En : Ends}
theorem sq_par2L {i j : Nat} {xs : List D} {y : D} (h : GL ta σ G xs) (h2 : GD tb σ G y) (e : Ex G H) (k : ∀ p vs b G' H', Gr N0 G H G' H' → H p = none → G' p = none → H' p = some (.lst vs) → Rps G' xs vs → Rp G' y b → tz En ((σ.set i (some (.ref p))).set j (some b)) H') :
    tSeq (tAsg (tTup (tCons ta (tCons tb tNil))) (gTup K 2 (gCons (gName i) (gCons (gName j) gNil)))) tz En σ H := h H e _ fun p vs G1 H1 g1 hp1 hp2 hp3 rs => (h2.mono g1.gg) H1 g1.gh _ fun b G2 H2 g2 rb => by
  refine ⟨by show 2 ≤ sizeLine; decide, fun t ht => ⟨t, _, rfl, .inl (.inl upd_same), rfl, .ref p, _, rfl, b, _, rfl, rfl, ?_⟩⟩
  have g12 := g1.trans g2
  have hp := g2.at0 hp3
  have ne : p ≠ t := fun z => by rw [z, ht] at hp; cases hp
  have gp := g2.off hp2 hp3
  have g3 := g12.data (o := .tup [.ref p, b]) ht
  have m := Ex.new (o := HO.tup [.ref p, b]) (g12.gh.free ht)
  exact k p vs b _ _ g3 hp1 (by rw [upd_ne ne]; exact gp) (by rw [upd_ne ne]; exact hp) ((rs.mono g2.gg).mono m) (rb.mono m)
theorem gt_chain {r r' : R2} {x y z : D} {a b : Bool} (ha : GD ta σ G x) (hb : GD tb σ G y) (hc : GD tc σ G z) (h1 : RO r x y (.bl a)) (h2 : RO r' y z (.bl b)) : GT (tTest (tChain r r' ta tb tc)) σ G (a && b) := fun H e Q q =>
  ha H e _ fun v G1 H1 g1 r1 => (hb.mono g1.gg) H1 g1.gh _ fun w G2 H2 g2 r2 => h1 G2 v w (r1.mono g2.gg) r2 H2 g2.gh _ fun u G3 H3 g3 r3 => by
    cases r3
    refine ⟨a, rfl, ?_⟩
    have g123 := g1.trans (g2.trans g3)
    cases a with
    | true => exact iteT ((hc.mono g123.gg) H3 g3.gh _ fun w' G4 H4 g4 r4 => h2 G4 w w' (r2.mono (g3.gg.trans g4.gg)) r4 H4 g4.gh _ fun u G5 H5 g5 r5 => by
        cases r5
        exact ⟨b, rfl, q _ _ (g123.trans (g4.trans g5))⟩)
    | false => exact iteF ⟨false, rfl, q _ _ g123⟩
end
def pairsM (ts : T2) : List T2 := (ts.map fun o => (ts.filter fun f => ltT o f).map fun f => ([o, f] : T2)).flatten
theorem pairs_map (ts : T2) : (ts.map fun o => (ts.filter fun f => ltT o f).map fun f => tT [o, f]).flatten = (pairsM ts).map tT := by
  unfold pairsM
  rw [List.map_flatten, List.map_map]
  congr 1
  refine List.map_congr_left fun o _ => ?_
  show _ = ((ts.filter fun f => ltT o f).map fun f => ([o, f] : T2)).map tT
  rw [List.map_map]
  rfl
def lotsM (ts : T2) : List D := [.lst ([([] : T2)].map tT), .lst ((ts.map fun t => ([t] : T2)).map tT)] ++ [.lst ((pairsM ts).map tT)]
def fewerM (ts : T2) : Nat → List T2
  | 1 => [[]]
  | 2 => ts.map fun t => [t]
  | 3 => pairsM ts
  | _ => []
theorem fewer_no {ts : T2} {n : Nat} (h : (decide ((0 : Int) < (n : Int)) && decide ((n : Int) < 4)) = false) : fewerM ts n = [] := by
  match n, h with
  | 0, _ => rfl
  | 1, h => cases h
  | 2, h => cases h
  | 3, h => cases h
  | n + 4, _ => rfl
theorem lots_at {ts : T2} {n : Nat} (h : (decide ((0 : Int) < (n : Int)) && decide ((n : Int) < 4)) = true) : atI (lotsM ts) ((n : Int) - 1) = some (.lst ((fewerM ts n).map tT)) := by
  match n, h with
  | 0, h => cases h
  | 1, _ => exact atI_nat (j := 0) rfl
  | 2, _ => exact atI_nat (j := 1) rfl
  | 3, _ => exact atI_nat (j := 2) rfl
  | n + 4, h =>
    rw [Bool.and_eq_true, decide_eq_true_eq, decide_eq_true_eq] at h
    omega
theorem pairs_in {ts : T2} {l : T2} (h : l ∈ pairsM ts) : l.length = 2 ∧ ∀ t ∈ l, t ∈ ts := by
  obtain ⟨m, hm, hl⟩ := List.mem_flatten.mp h
  obtain ⟨o, ho, rfl⟩ := List.mem_map.mp hm
  obtain ⟨f, hf, rfl⟩ := List.mem_map.mp hl
  refine ⟨rfl, fun t ht => ?_⟩
  rcases List.mem_cons.mp ht with z | z
  · rw [z]; exact ho
  · rw [List.mem_singleton.mp z]; exact (List.mem_filter.mp hf).1
theorem fewer_in {ts : T2} {n : Nat} {l : T2} (h : l ∈ fewerM ts n) : l.length < n ∧ ∀ t ∈ l, t ∈ ts := by
  match n, h with
  | 0, h => cases h
  | 1, h =>
    rw [List.mem_singleton.mp h]
    exact ⟨Nat.zero_lt_one, fun t ht => nomatch ht⟩
  | 2, h =>
    obtain ⟨t, ht, rfl⟩ := List.mem_map.mp h
    exact ⟨by show 1 < 2; omega, fun x hx => by rw [List.mem_singleton.mp hx]; exact ht⟩
  | 3, h =>
    obtain ⟨h1, h2⟩ := pairs_in h
    exact ⟨by omega, h2⟩
  | n + 4, h => cases h
theorem fewer_len {ts : T2} {n : Nat} (h : ts.length ≤ 65) : (fewerM ts n).length ≤ 90000 := by
  match n with
  | 0 => exact Nat.zero_le _
  | 1 => show 1 ≤ 90000; omega
  | 2 => show (ts.map _).length ≤ _; rw [List.length_map]; omega
  | 3 =>
    have := flat_len (fun o => (ts.filter fun f => ltT o f).map fun f => ([o, f] : T2)) 65 ts fun o ho => by
      rw [List.length_map]; exact Nat.le_trans (List.length_filter_le _ _) h
    show (pairsM ts).length ≤ _
    unfold pairsM
    omega
  | n + 4 => exact Nat.zero_le _
theorem read_in {ns : T1} {rolls : T2} (h : ∀ l ∈ rolls, ∀ x ∈ l, x ∈ ns) : ∀ t ∈ readM rolls, ∀ x ∈ t, x ∈ ns := fun t ht => ((read_inv h).at_ t ht).2
def spRight : Sp := fun vs H Q _ => vs.length = 1 ∧ ∃ (p : Addr) (G : Hp), vs = [.ref p] ∧ Ex G H ∧ G p = none ∧ Urn 0 H p ∧ ∀ (G' H' : Hp), Gr (fun a => a = p) G H G' H' → Q (.bl true) H'
section
variable {P : Program} {w : World} {K : PySem.W.Frag} {mg : Str → Option Value} {base : Heap}
theorem ok_Lright (M : Mo mg) (h : Df K mg "_law_right" s_Lright p_Lright) (hB : At P w K mg base "_law_book" s_Lbook p_Lbook 4 spBook) (hF : At P w K mg base "fewest_lists" s_fewest_lists p_fewest_lists 44 (spD 1 fFewest)) (hW : At P w K mg base "width" s_width p_width 44 (spD 1 fWidth))
    (hO : At P w K mg base "_law_orders" s_Lorders p_Lorders 2 spOrders) (hV : At P w K mg base "_law_serves" s_Lserves p_Lserves 3 (spD 2 fServes)) (hA : At P w K mg base "_law_same" s_Lsame p_Lsame 3 (spD 2 (fSame 3))) (hL : At P w K mg base "_law_lists" s_Llists p_Llists 5 (spD 1 (fLists 5)))
    (hS : At P w K mg base "_law_stands" s_Lstands p_Lstands 2 (spD 1 fStands)) (hR : At P w K mg base "_law_read" s_Lread p_Lread 1 (spD 1 fRead)) : At P w K mg base "_law_right" s_Lright p_Lright 45 spRight := by
  obtain ⟨f_Lbook, fd_Lbook, F_Lbook, b_Lbook, g_Lbook, G_Lbook⟩ := hB
  obtain ⟨f_fewest_lists, fd_fewest_lists, F_fewest_lists, b_fewest_lists, g_fewest_lists, G_fewest_lists⟩ := hF
  obtain ⟨f_width, fd_width, F_width, b_width, g_width, G_width⟩ := hW
  obtain ⟨f_Lorders, fd_Lorders, F_Lorders, b_Lorders, g_Lorders, G_Lorders⟩ := hO
  obtain ⟨f_Lserves, fd_Lserves, F_Lserves, b_Lserves, g_Lserves, G_Lserves⟩ := hV
  obtain ⟨f_Lsame, fd_Lsame, F_Lsame, b_Lsame, g_Lsame, G_Lsame⟩ := hA
  obtain ⟨f_Llists, fd_Llists, F_Llists, b_Llists, g_Llists, G_Llists⟩ := hL
  obtain ⟨f_Lstands, fd_Lstands, F_Lstands, b_Lstands, g_Lstands, G_Lstands⟩ := hS
  obtain ⟨f_Lread, fd_Lread, F_Lread, b_Lread, g_Lread, G_Lread⟩ := hR
  obtain ⟨f, fd, F, b, g⟩ := h
  refine ⟨f, fd, F, b, g, F.ok c_Lright (fun vs H Q E h => h.1) (fun cdv A outer s H vs Q E hr h => ?_)⟩
  obtain ⟨_, p, G, rfl, e, gp, hu, q⟩ := h
  refine ⟨_, (pss_cons
    (ps_for PassesOwn.never rfl (pi_range1 (by rfl) M.range_ (pa_cons pe_int pa_nil)) (pg_name (i := 1) c_Lright.nd rfl (by first | exact .inl rfl | exact .inr rfl)) (pss_cons
        (ps_set (i := 2) c_Lright.nd rfl (by first | exact .inl rfl | exact .inr rfl) (pe_call G_Lbook (hr.mono (by omega)) (by rfl) g_Lbook F_Lbook.kp b_Lbook .nil pass0 (pa_cons (pv 0) (pa_cons pe_int pa_nil))))
        (pss_cons
        (ps_asg (pe_tup (pa_cons (pe_call G_fewest_lists (hr.mono (by omega)) (by rfl) g_fewest_lists F_fewest_lists.kp b_fewest_lists .nil pass0 (pa_cons (pv 2) pa_nil)) (pa_cons (pe_call G_Lorders (hr.mono (by omega)) (by rfl) g_Lorders F_Lorders.kp b_Lorders .nil pass0 (pa_cons (pv 2) pa_nil)) pa_nil))) (k_tupn K 2 (pgs_cons (pg_name (i := 3) c_Lright.nd rfl (by first | exact .inl rfl | exact .inr rfl)) (pgs_cons (pg_name (i := 4) c_Lright.nd rfl (by first | exact .inl rfl | exact .inr rfl)) pgs_nil))))
        (pss_cons
        (ps_if (PW.pt (pw_or (pt_not (pt_val (pe_callB (k_isi K) (by rfl) M.isinstance_ PyProof.Rows.boot_isinstance (pa_cons (pv 3) (pa_cons (pe_bltn (v := .ty "tuple") (by rfl) M.tuple_ PyProof.Rows.boot_tuple rfl) pa_nil))))) (pw_or (pt_not (pt_val (pe_call G_Lserves (hr.mono (by omega)) (by rfl) g_Lserves F_Lserves.kp b_Lserves .nil pass0 (pa_cons (pv 2) (pa_cons (pv 3) pa_nil))))) (pw_or1 (pt_cmpR op_ne (pe_callB (k_len K) (by rfl) M.len_ PySem.boot_len (pa_cons (pv 3) pa_nil)) (pe_call G_width (hr.mono (by omega)) (by rfl) g_width F_width.kp b_width .nil pass0 (pa_cons (pv 2) pa_nil)) (nomark _)))))) (pss_one
            (ps_ret pe_bl)) pss_nil)
        (pss_cons
        (ps_if (pt_not (pt_val (pe_call G_Lsame (hr.mono (by omega)) (by rfl) g_Lsame F_Lsame.kp b_Lsame .nil pass0 (pa_cons (pe_call G_fewest_lists (hr.mono (by omega)) (by rfl) g_fewest_lists F_fewest_lists.kp b_fewest_lists .nil pass0 (pa_cons (pe_call G_Llists (hr.mono (by omega)) (by rfl) g_Llists F_Llists.kp b_Llists .nil pass0 (pa_cons (pv 2) pa_nil)) pa_nil)) (pa_cons (pv 3) pa_nil))))) (pss_one
            (ps_ret pe_bl)) pss_nil)
        (pss_cons
        (ps_asg (pe_tup (pa_cons (pe_lst (pa_cons (pe_lst (pa_cons (pe_tup pa_nil) pa_nil)) (pa_cons (pe_lc (own := [("_law_own", 8)]) rfl c_Lright.nd (k_seq K (pv 4)) (blkOk_by (by kernel_rfl)) (fun _ _ _ _ _ => (pg_name (i := 8) c_Lright.nd rfl (by first | exact .inl rfl | exact .inr rfl))) (fun _ _ _ _ _ => pts_nil) (fun _ _ _ _ _ => (pe_tup (pa_cons (pv 8) pa_nil)))) pa_nil))) (pa_cons (pe_call G_Lstands (hr.mono (by omega)) (by rfl) g_Lstands F_Lstands.kp b_Lstands .nil pass0 (pa_cons (pv 2) pa_nil)) pa_nil))) (k_tupn K 2 (pgs_cons (pg_name (i := 5) c_Lright.nd rfl (by first | exact .inl rfl | exact .inr rfl)) (pgs_cons (pg_name (i := 6) c_Lright.nd rfl (by first | exact .inl rfl | exact .inr rfl)) pgs_nil))))
        (pss_cons
        (ps_expr (pe_bm PySem.F.plainAttrs_list PySem.F.slot_list_append PySem.F.type_list_append mt_append (pv 5) (pa_cons (pe_callB k_sumL (by rfl) M.sum_ PyProof.Rows.boot_sum (pa_cons (pe_lc (own := [("_law_own", 8)]) rfl c_Lright.nd (k_seq K (pv 4)) (blkOk_by (by kernel_rfl)) (fun _ _ _ _ _ => (pg_name (i := 8) c_Lright.nd rfl (by first | exact .inl rfl | exact .inr rfl))) (fun _ _ _ _ _ => pts_nil) (fun _ _ _ _ _ => (pe_lc (own := [("_law_far", 9)]) rfl c_Lright.nd (k_seq K (pv 4)) (blkOk_by (by kernel_rfl)) (fun _ _ _ _ _ => (pg_name (i := 9) c_Lright.nd rfl (by first | exact .inl rfl | exact .inr rfl))) (fun _ _ _ _ _ => (pts_one (pt_cmpR (k_gtT K hr.units) (pv 9) (pv 8) (nomark _)))) (fun _ _ _ _ _ => (pe_tup (pa_cons (pv 8) (pa_cons (pv 9) pa_nil))))))) (pa_cons (pe_lst pa_nil) pa_nil))) pa_nil)))
        (pss_cons
        (ps_set (i := 7) c_Lright.nd rfl (by first | exact .inl rfl | exact .inr rfl) (pe_ifExp (pt_chain op_lt op_lt pe_int (pe_callB (k_len K) (by rfl) M.len_ PySem.boot_len (pa_cons (pv 3) pa_nil)) pe_int) (pe_ix (k_ixL K) (pv 5) (pe_op op_sub (pe_callB (k_len K) (by rfl) M.len_ PySem.boot_len (pa_cons (pv 3) pa_nil)) pe_int) (fun _ _ => rfl)) (pe_lst pa_nil)))
        (pss_one
        (ps_if (pt_cmpR (k_neD K hr.units) (pe_lc (own := [("_law_lot", 10)]) rfl c_Lright.nd (k_seq K (pv 7)) (blkOk_by (by kernel_rfl)) (fun _ _ _ _ _ => (pg_name (i := 10) c_Lright.nd rfl (by first | exact .inl rfl | exact .inr rfl))) (fun _ _ _ _ _ => (pts_one (pt_cmpR (k_eqD K hr.units) (pe_call G_Lread (hr.mono (by omega)) (by rfl) g_Lread F_Lread.kp b_Lread .nil pass0 (pa_cons (pv 10) pa_nil)) (pv 6) (nomark _)))) (fun _ _ _ _ _ => (pv 10))) (pe_lst pa_nil) (nomark _)) (pss_one
            (ps_ret pe_bl)) pss_nil))))))))))
    (pss_one
    (ps_ret pe_bl))), ?_⟩
  have gr := gi_range (n := ((6 : Nat) : Int)) (σ := start n_Lright [.ref p]) (G := G) (ga_one (gd_c (.int 6))) (by decide) (by decide)
  rw [Int.toNat_natCast] at gr
  refine sd_for gr e fun G1 H1 g1 => ?_
  obtain ⟨a0, b0, c0, hp0, hc0⟩ := hu
  refine ⟨fun i σ' G' H' => ∃ (h1 h2 h3 h4 h5 h6 h7 : Option V), σ' = [some (.ref p), h1, h2, h3, h4, h5, h6, h7, none, none, none] ∧ Gr (fun a => a = p) G H G' H' ∧ Ex G1 G' ∧ G' p = none ∧ Urn (200 * i) H' p,
    ⟨none, none, none, none, none, none, none, rfl, g1.wk0, .refl _, g1.off gp hp0, ⟨a0, b0, c0, g1.at0 hp0, by omega⟩⟩, ?_, ?_, ?_⟩
  · rintro i σ' G' H' ⟨h1, h2, h3, h4, h5, h6, h7, rfl, gg, e1, _⟩
    exact ⟨e1, gg.gh⟩
  · rintro i dd σ' G' H' v1 G2 H2 hdd ⟨h1, h2, h3, h4, h5, h6, h7, rfl, gg, e1, gp', ⟨a, b, c, hu, hc⟩⟩ g2 r1
    obtain ⟨hi6, rfl⟩ := rangeD_at hdd
    have gg2 := gg.trans g2.wk0
    refine ⟨_, rfl, ?_⟩
    refine ⟨rfl, p, 200 * i, G2, rfl, gg2.gh, g2.off gp' hu, ⟨a, b, c, g2.at0 hu, hc⟩, by omega, fun bk v2 G3 H3 g3 gp3 hu3 rb D => ?_⟩
    have gg3 := gg2.trans g3
    obtain ⟨a3, b3, c3, hp3, hc3⟩ := hu3
    refine gd_call (ga_one (gd_var (σ := [some (.ref p), some (.int (i : Int)), some v2, h3, h4, h5, h6, h7, none, none, none]) (i := 2) rfl rb)) rfl ⟨_, bk, rfl, .inl rfl, D.fine, rfl⟩ H3 gg3.gh _ fun v3 G4 H4 g4 r3 => ?_
    refine ⟨_, rfl, ?_⟩
    refine ⟨rfl, v2, bk, G4, rfl, g4.gh, rb.mono g4.gg, D.sm, D.okB, D.len, fun ts v4 G5 H5 g5 r4 htl hto => ?_⟩
    refine ⟨by show 2 ≤ sizeLine; decide, fun t0 ht0 => ⟨t0, _, rfl, .inl (.inl upd_same), rfl, v3, _, rfl, v4, _, rfl, rfl, ?_⟩⟩
    have g45 := (g4.trans g5).data (o := .tup [v3, v4]) ht0
    have gg5 := gg3.trans g45.wk0
    obtain ⟨rolls, e9, hl9, hro, hrd⟩ := told_all D.fine
    have b4 := D.len
    have chf := chains_few D.fine
    rw [e9] at r3
    have m45 : Ex G4 (upd G5 t0 (.tup [v3, v4])) := g5.gg.trans (Ex.new (g5.gh.free ht0))
    have rT := r3.mono m45
    have rB := rb.mono (g4.gg.trans m45)
    have r4' := r4.mono (Ex.new (o := HO.tup [v3, v4]) (g5.gh.free ht0))
    have nml : (names bk).length = bk.length := by unfold names; rw [List.length_map]
    refine sq_if (b := false) (gt_is (gt_or (gt_not (gt_test (gd_isi1 (b := true) (gd_var (i := 3) rfl rT) rfl kit_tt))) fun _ => gt_or (gt_not (gt_test (gd_call (ga_two (gd_var (i := 2) rfl rB) (gd_var (i := 3) rfl rT)) rfl ⟨bk, rolls, rfl, D.sm, D.okB, by omega, hro, rfl⟩))) fun _ => gt_B (gd_op (gd_cb (ga_one (gd_var (i := 3) rfl rT)) rb_lenT) (gd_call (ga_one (gd_var (i := 2) rfl rB)) rfl ⟨_, bk, rfl, .inl rfl, D.fine, rfl⟩) ro_neI))
      (by rw [hrd, decide_eq_true rfl, List.length_map, hl9]; simp)) gg5.gh (fun z => nomatch z) fun _ G6 H6 g6 => ?_
    have gg6 := gg5.trans g6.wk0
    have shT : ShS 3 (tT rolls) := ⟨by rw [List.length_map]; omega, fun d hd => by
      obtain ⟨l, hl, rfl⟩ := List.mem_map.mp hd
      refine ⟨by rw [List.length_map]; have := lenLe (hro l hl).1 (hro l hl).2; omega, fun d hd => ?_⟩
      obtain ⟨x, _, rfl⟩ := List.mem_map.mp hd
      trivial⟩
    refine sq_if (b := false) (gt_not (gt_test (b := true) (gd_call (ga_two (gd_is (gd_call (ga_one (gd_call (ga_one (gd_var (i := 2) rfl (rB.mono g6.gg))) rfl ⟨_, rfl, (lists_bk D.sm).1, rfl⟩)) rfl ⟨_, bk, rfl, .inr (lists_bk D.sm).2, D.fine, rfl⟩) e9) (gd_var (i := 3) rfl (rT.mono g6.gg))) rfl ⟨tT rolls, rfl, shT, rfl⟩))) gg6.gh (fun z => nomatch z) fun _ G7 H7 g7 => ?_
    have k7 := ((g4.trans g5).data (o := .tup [v3, v4]) ht0).trans (g6.trans g7)
    have m7 := g6.gg.trans g7.gg
    have rT7 := rT.mono m7
    have rB7 := rB.mono m7
    have r47 := r4'.mono m7
    have okN := okB_names D.okB
    have okts : okT ts = true := okT_of okN fun t ht => (hto t ht).sub
    refine sq_par2L (xs := [.lst ([([] : T2)].map tT), .lst ((ts.map fun t => ([t] : T2)).map tT)]) (y := .lst ((standsM bk).map tS))
      (gl_lst (ga_two (gd_is (gd_lst (ga_one (gd_tup ga_nil (Nat.zero_le _))) (by show 1 ≤ 100000; omega)) rfl) (gd_is (GL.gd (gl_lc0 (vs := [8]) (j := 8) (e := tS) (f := fun t => tT [t]) (gi_seqL (gd_var (i := 4) rfl r47)) (by omega) (fun _ => rfl) fun x hx G' v e1 r => gd_is (gd_tup (ga_one (gd_var (i := 8) rfl r)) (by show 1 ≤ 100000; omega)) rfl)) (by rw [List.map_map]; rfl))) (by show 2 ≤ 100000; omega))
      (gd_call (ga_one (gd_var (i := 2) rfl rB7)) rfl ⟨bk, rfl, D.sm, D.okB, rfl⟩) k7.gh fun L vsL v6 G8 H8 g8 hL1 hL2 hL3 rL r6 => ?_
    have k8 := k7.trans g8
    have hLH := k7.free hL1
    have lL := rL.len
    have r48 := r47.mono g8.gg
    refine s_append (d := .lst ((pairsM ts).map tT)) (i := 5) rfl (gd_is (gd_sumL (xs := ts.map fun o => (ts.filter fun f => ltT o f).map fun f => tT [o, f]) (gd_is (GL.gd (gl_lc0 (vs := [8]) (j := 8) (e := tS) (f := fun o => .lst ((ts.filter fun f => ltT o f).map fun f => tT [o, f])) (gi_seqL (gd_var (i := 4) rfl r48)) (by omega) (fun _ => rfl) fun o ho G' v e1 r =>
        GL.gd (gl_lc1 (vs := [9]) (j := 9) (e := tS) (p := fun f => ltT o f) (f := fun f => tT [o, f]) (gi_seqL (gd_var (i := 4) rfl (r48.mono e1))) (by omega) (fun _ => rfl)
          (fun f hf G2 v2 e2 r2 => gt_test (gd_op (gd_var (i := 9) rfl r2) (gd_var (i := 8) rfl (r.mono e2)) (ro_gtT (okT_mem okts hf) (okT_mem okts ho))))
          (fun f hf _ G2 v2 e2 r2 => gd_is (gd_tup (ga_two (gd_var (i := 8) rfl (r.mono e2)) (gd_var (i := 9) rfl r2)) (by show 2 ≤ 100000; omega)) rfl)))) (by rw [List.map_map]; rfl))
        (by have := flat_len (fun o => (ts.filter fun f => ltT o f).map fun f => tT [o, f]) 65 ts fun o ho => by
              rw [List.length_map]; exact Nat.le_trans (List.length_filter_le _ _) htl
            omega)) (by rw [pairs_map])) k8.gh hL3 (by rw [← lL]; show 2 < 100000; omega) fun v9 G9 H9 g9 r9 hL9 => ?_
    have gL9 := g9.off hL2 hL3
    have k9 := ((k8.trans g9).put (p := L) (o := .lst (vsL ++ [v9])) (.inl hLH) gL9).seal hLH upd_same
    have m9 := Ex.new (o := HO.lst (vsL ++ [v9])) gL9
    have m89 := g9.gg.trans m9
    have rT9 := (rT7.mono g8.gg).mono m89
    have rL9 : Rp (upd G9 L (.lst (vsL ++ [v9]))) (.lst (lotsM ts)) (.ref L) := .lst upd_same (((rL.mono g9.gg).append (.one r9)).mono m9)
    have r69 := r6.mono m89
    refine sq_asg (d := .lst ((fewerM ts rolls.length).map tT)) (gd_if (b := decide ((0 : Int) < (rolls.length : Int)) && decide ((rolls.length : Int) < 4))
      (gt_chain (gd_c (.int 0)) (gd_is (gd_cb (ga_one (gd_var (i := 3) rfl rT9)) rb_lenT) (by rw [List.length_map])) (gd_c (.int 4)) (ro_cmp (p := fun i j => decide (i < j))) (ro_cmp (p := fun i j => decide (i < j))))
      (fun hb => gd_op (gd_var (i := 5) rfl rL9) (gd_op (r := rI0 fun i j => V.int (i - j)) (gd_is (gd_cb (ga_one (gd_var (i := 3) rfl rT9)) rb_lenT) (by rw [List.length_map])) (gd_c (.int 1)) ro_int) (ro_ixL (lots_at hb)))
      (fun hb => gd_is (gd_lst ga_nil (Nat.zero_le _)) (by rw [fewer_no hb]; rfl))) k9.gh fun v7 G10 H10 g10 r7 => ?_
    have k10 := k9.trans g10
    have few : ∀ l ∈ fewerM ts rolls.length, decide (readM l = standsM bk) = false := fun l hl => decide_eq_false fun z => by
      have h1 := no_fewer D.fine z
      have h2 := (fewer_in hl).1
      omega
    have fl := fewer_len (ts := ts) (n := rolls.length) htl
    refine s_if (b := false) (gt_is (gt_B (gd_op (GL.gd (gl_lc1 (vs := [10]) (j := 10) (e := tT) (p := fun l => decide (readM l = standsM bk)) (f := tT) (gi_seqL (gd_var (i := 7) rfl r7)) (by omega) (fun _ => rfl)
        (fun l hl G' v e1 r => gt_test (gd_op (gd_call (ga_one (gd_var (i := 10) rfl r)) rfl ⟨l, names bk, rfl, by omega, fun t ht => ⟨by have O := hto t ((fewer_in hl).2 t ht); have := lenLe O.nd O.sub; omega, (hto t ((fewer_in hl).2 t ht)).sub⟩, rfl⟩) (gd_var (i := 6) rfl ((r69.mono g10.gg).mono e1)) (ro_eqTs (okT_of okN (read_in fun t ht => (hto t ((fewer_in hl).2 t ht)).sub)) (okT_of okN stands_in))))
        (fun l hl _ G' v e1 r => gd_var (i := 10) rfl r))) (gd_lst ga_nil (Nat.zero_le _)) (ro_neNil (by rw [List.filter_eq_nil_iff.mpr fun l hl => by rw [few l hl]; decide]; rfl) (by rw [List.filter_eq_nil_iff.mpr fun l hl => by rw [few l hl]; decide]; decide))))
      (by rw [List.filter_eq_nil_iff.mpr fun l hl => by rw [few l hl]; decide]; rfl)) k10.gh (fun z => nomatch z) fun _ G11 H11 g11 => ?_
    have k11 := k10.trans g11
    exact ⟨G11, _, _, _, _, _, _, _, rfl, gg3.trans k11.wk0, e1.trans (g2.gg.trans (g3.gg.trans k11.gg)), k11.off gp3 hp3, ⟨a3, b3, c3, k11.at0 hp3, by omega⟩⟩
  · rintro σ' G' H' ⟨h1, h2, h3, h4, h5, h6, h7, rfl, gg, e1, _⟩
    exact q G' H' gg
end
end Up

/-! text Up31 -/
set_option Elab.async false
set_option linter.all false
set_option maxRecDepth 100000
set_option maxHeartbeats 4000000
/-! the law's own defs: right -/
/-! the law's own defs: pairs_right -/
namespace Up
open PySem PySem.Spec PyProof.Rows L2 UpS
section
variable {K : PySem.W.Frag} {σ : L2.St} {G H : Hp} {ta tb tc : TE} {tz : TS} {En : Ends}
theorem sq_tparDL {i j : Nat} {x : D} {ys : List D} (h : GD ta σ G x) (h2 : GL tb σ G ys) (e : Ex G H) (k : ∀ v q ws G' H', Gr N0 G H G' H' → Rp G' x v → H q = none → G' q = none → H' q = some (.lst ws) → Rps G' ys ws → tz En ((σ.set i (some v)).set j (some (.ref q))) H') : tSeq (tPar i j (tCons ta (tCons tb tNil))) tz En σ H :=
  h H e _ fun v G1 H1 g1 r1 => (h2.mono g1.gg) H1 g1.gh _ fun q ws G2 H2 g2 b1 b2 b3 b4 =>
    ⟨_, _, rfl, k v q ws G2 H2 (g1.trans g2) (r1.mono g2.gg) (g1.free b1) b2 b3 b4⟩
end
def pairItem (lone mate : T1) (own : Str) : Str × T2 := (own, isort ltT ((lowerM ((readM [lone, mate]).filter fun lot => decide (own ∈ lot))).map fun lot => lot.filter fun far => !decide (far = own)))
theorem pair_map (lone mate : T1) : pairBook lone mate = abc.map (pairItem lone mate) := rfl
theorem pair_bk (lone mate : T1) (own : Str) : D.tup [.str own, tT (isort ltT ((lowerM ((readM [lone, mate]).filter fun lot => decide (own ∈ lot))).map fun lot => lot.filter fun far => !decide (far = own)))] = bkItem false (pairItem lone mate own) := by
  unfold bkItem pairItem
  exact (if_neg (by decide)).symm
theorem abc_ok : okS abc = true := by decide +kernel
/-- what the evaluation says of a pair -/
theorem pair_is {lone mate : T1} (hl : lone ∈ (linesM abc).take 2) (hm : mate ∈ linesM abc) : (pathChains (pairBook lone mate)).length = (if lone = mate then 1 else 2) ∧ okB (pairBook lone mate) = true ∧ Sm (pairBook lone mate) := by
  have h := List.all_eq_true.mp (List.all_eq_true.mp pairs_ok lone hl) mate hm
  unfold pairOk at h
  rw [Bool.and_eq_true, Bool.and_eq_true, decide_eq_true_eq] at h
  obtain ⟨⟨h1, h2⟩, h3⟩ := h
  refine ⟨h1, h2, ?_, by show 3 ≤ 10; omega, fun p hp => ?_, fun p hp n hn => ?_⟩
  · show abc.Nodup
    decide +kernel
  · exact of_decide_eq_true (Bool.and_eq_true_iff.mp (List.all_eq_true.mp h3 p hp)).1
  · exact of_decide_eq_true (List.all_eq_true.mp (Bool.and_eq_true_iff.mp (List.all_eq_true.mp h3 p hp)).2 n hn)
theorem line_is {l : T1} (h : l ∈ linesM abc) : l.length = 3 ∧ ∀ x ∈ l, x ∈ abc := by
  have h1 := Bool.and_eq_true_iff.mp (List.all_eq_true.mp lines_ok l h)
  exact ⟨of_decide_eq_true h1.1, fun x hx => of_decide_eq_true (List.all_eq_true.mp h1.2 x hx)⟩
theorem lower_mem {ts : T2} {t : T1} (h : t ∈ lowerM ts) : t ∈ ts := by
  unfold lowerM at h
  exact (List.mem_filter.mp (mem_isort.mp h)).1
theorem lower_len (ts : T2) : (lowerM ts).length ≤ ts.length := by
  unfold lowerM
  rw [len_isort]
  exact List.length_filter_le _ _
def fTrue : List D → D → Prop := fun _ d => d = .bl true
section
variable {P : Program} {w : World} {K : PySem.W.Frag} {mg : Str → Option Value} {base : Heap}
theorem ok_Lpairs_right (M : Mo mg) (h : Df K mg "_law_pairs_right" s_Lpairs_right p_Lpairs_right) (hF : At P w K mg base "fewest_lists" s_fewest_lists p_fewest_lists 44 (spD 1 fFewest)) (hI : At P w K mg base "_law_lines" s_Llines p_Llines 1 (spD 1 fLines))
    (hV : At P w K mg base "_law_serves" s_Lserves p_Lserves 3 (spD 2 fServes)) (hO : At P w K mg base "_law_lower" s_Llower p_Llower 2 (spD 1 fLower)) (hR : At P w K mg base "_law_read" s_Lread p_Lread 1 (spD 1 fRead)) : At P w K mg base "_law_pairs_right" s_Lpairs_right p_Lpairs_right 45 (spD 0 fTrue) := by
  obtain ⟨f_fewest_lists, fd_fewest_lists, F_fewest_lists, b_fewest_lists, g_fewest_lists, G_fewest_lists⟩ := hF
  obtain ⟨f_Llines, fd_Llines, F_Llines, b_Llines, g_Llines, G_Llines⟩ := hI
  obtain ⟨f_Lserves, fd_Lserves, F_Lserves, b_Lserves, g_Lserves, G_Lserves⟩ := hV
  obtain ⟨f_Llower, fd_Llower, F_Llower, b_Llower, g_Llower, G_Llower⟩ := hO
  obtain ⟨f_Lread, fd_Lread, F_Lread, b_Lread, g_Lread, G_Lread⟩ := hR
  obtain ⟨f, fd, F, b, g⟩ := h
  refine ⟨f, fd, F, b, g, F.ok c_Lpairs_right (fun vs H Q E h => h.1) (fun cdv A outer s H vs Q E hr h => ?_)⟩
  obtain ⟨hvs, ds, d, G, e, r, rfl, q⟩ := h
  obtain rfl := List.length_eq_zero_iff.mp hvs
  refine ⟨_, (pss_cons
    (ps_set (i := 0) c_Lpairs_right.nd rfl (by first | exact .inl rfl | exact .inr rfl) (pe_call G_Llines (hr.mono (by omega)) (by rfl) g_Llines F_Llines.kp b_Llines .nil pass0 (pa_cons (pe_tup (pa_cons pe_str (pa_cons pe_str (pa_cons pe_str pa_nil)))) pa_nil)))
    (pss_cons
    (ps_for PassesOwn.never rfl (k_seq K (pe_slice (k_slL K) (pv 0) po_none (po_some pe_int))) (pg_name (i := 1) c_Lpairs_right.nd rfl (by first | exact .inl rfl | exact .inr rfl)) (pss_one
        (ps_for PassesOwn.never rfl (k_seq K (pv 0)) (pg_name (i := 2) c_Lpairs_right.nd rfl (by first | exact .inl rfl | exact .inr rfl)) (pss_cons
            (ps_par (i := 3) (j := 4) rfl c_Lpairs_right.nd rfl rfl (by decide) rfl rfl (pa_cons (pe_call G_Lread (hr.mono (by omega)) (by rfl) g_Lread F_Lread.kp b_Lread .nil pass0 (pa_cons (pe_tup (pa_cons (pv 1) (pa_cons (pv 2) pa_nil))) pa_nil)) (pa_cons (pe_lst pa_nil) pa_nil)) (by rfl))
            (pss_cons
            (ps_for PassesOwn.never rfl (k_seq K (pe_tup (pa_cons pe_str (pa_cons pe_str (pa_cons pe_str pa_nil))))) (pg_name (i := 5) c_Lpairs_right.nd rfl (by first | exact .inl rfl | exact .inr rfl)) (pss_cons
                (ps_set (i := 6) c_Lpairs_right.nd rfl (by first | exact .inl rfl | exact .inr rfl) (pe_call G_Llower (hr.mono (by omega)) (by rfl) g_Llower F_Llower.kp b_Llower .nil pass0 (pa_cons (pe_lc (own := [("_law_lot", 8)]) rfl c_Lpairs_right.nd (k_seq K (pv 3)) (blkOk_by (by kernel_rfl)) (fun _ _ _ _ _ => (pg_name (i := 8) c_Lpairs_right.nd rfl (by first | exact .inl rfl | exact .inr rfl))) (fun _ _ _ _ _ => (pts_one (pt_cmpR (k_in K) (pv 5) (pv 8) (by rfl)))) (fun _ _ _ _ _ => (pv 8))) pa_nil)))
                (pss_one
                (ps_expr (pe_bm PySem.F.plainAttrs_list PySem.F.slot_list_append PySem.F.type_list_append mt_append (pv 4) (pa_cons (pe_tup (pa_cons (pv 5) (pa_cons (pe_callTy (k_tuple K) (by rfl) M.tuple_ PyProof.Rows.boot_tuple (pa_cons (pe_callB (k_sorted K w hr.units) (by rfl) M.sorted_ PyProof.Rows.boot_sorted (pa_cons (pe_lc (own := [("_law_lot", 8)]) rfl c_Lpairs_right.nd (k_seq K (pv 6)) (blkOk_by (by kernel_rfl)) (fun _ _ _ _ _ => (pg_name (i := 8) c_Lpairs_right.nd rfl (by first | exact .inl rfl | exact .inr rfl))) (fun _ _ _ _ _ => pts_nil) (fun _ _ _ _ _ => (pe_callTy (k_tuple K) (by rfl) M.tuple_ PyProof.Rows.boot_tuple (pa_cons (pe_lc (own := [("_law_far", 9)]) rfl c_Lpairs_right.nd (k_seq K (pv 8)) (blkOk_by (by kernel_rfl)) (fun _ _ _ _ _ => (pg_name (i := 9) c_Lpairs_right.nd rfl (by first | exact .inl rfl | exact .inr rfl))) (fun _ _ _ _ _ => (pts_one (pt_cmpR op_ne (pv 9) (pv 5) (nomark _)))) (fun _ _ _ _ _ => (pv 9))) pa_nil)))) pa_nil)) pa_nil)) pa_nil))) pa_nil))))))
            (pss_cons
            (ps_set (i := 7) c_Lpairs_right.nd rfl (by first | exact .inl rfl | exact .inr rfl) (pe_call G_fewest_lists (hr.mono (by omega)) (by rfl) g_fewest_lists F_fewest_lists.kp b_fewest_lists .nil pass0 (pa_cons (pe_callTy (k_tupF K) (by rfl) M.tuple_ PyProof.Rows.boot_tuple (pa_cons (pv 4) pa_nil)) pa_nil)))
            (pss_one
            (ps_if (PW.pt (pw_or (pt_not (pt_val (pe_call G_Lserves (hr.mono (by omega)) (by rfl) g_Lserves F_Lserves.kp b_Lserves .nil pass0 (pa_cons (pe_callTy (k_tupF K) (by rfl) M.tuple_ PyProof.Rows.boot_tuple (pa_cons (pv 4) pa_nil)) (pa_cons (pv 7) pa_nil))))) (pw_or1 (pt_cmpR op_ne (pe_callB (k_len K) (by rfl) M.len_ PySem.boot_len (pa_cons (pv 7) pa_nil)) (pe_op op_add pe_int (pe_callTy call_int1 (by rfl) M.int_ PyProof.Rows.boot_int (pa_cons (pe_cmpR (k_neD K hr.units) (pv 1) (pv 2) (nomark _)) pa_nil))) (nomark _))))) (pss_one
                (ps_ret pe_bl)) pss_nil))))))))
    (pss_one
    (ps_ret pe_bl)))), ?_⟩
  have gabc : ∀ (σ : L2.St) (G : Hp), GD (tTup (tCons (tC (.str "a")) (tCons (tC (.str "b")) (tCons (tC (.str "c")) tNil)))) σ G (tS abc) := fun σ G => gd_is (gd_tup (ga_cons (gd_c (.str "a")) (ga_cons (gd_c (.str "b")) (ga_one (gd_c (.str "c"))))) (by show 3 ≤ 100000; omega)) rfl
  refine sq_asg (d := .lst ((linesM abc).map tS)) (gd_call (ga_one (gabc _ _)) rfl ⟨abc, rfl, by decide, rfl⟩) e fun v0 G1 H1 g1 r0 => ?_
  refine sd_for (ds := ((linesM abc).take 2).map tS) (gi_seqL (gd_is (GL.gd (gl_slL (gd_var (i := 0) rfl r0) go_none (go_some (gd_c (.int 2))))) (by rw [List.map_take]; exact congrArg D.lst (cutD_to 2)))) g1.gh fun G2 H2 g2 => ?_
  have gg2 := g1.trans g2
  refine ⟨fun i σ' G' H' => ∃ h1 h2 h3 h4 h5 h6 h7, σ' = [some v0, h1, h2, h3, h4, h5, h6, h7, none, none] ∧ Gr N0 G H G' H' ∧ Ex G2 G', ⟨none, none, none, none, none, none, none, rfl, gg2, .refl _⟩, ?_, ?_, ?_⟩
  · rintro i σ' G' H' ⟨h1, h2, h3, h4, h5, h6, h7, rfl, gg, e2⟩
    exact ⟨e2, gg.gh⟩
  · rintro i dd σ' G' H' v1 G3 H3 hdd ⟨h1, h2, h3, h4, h5, h6, h7, rfl, gg, e2⟩ g3 r1
    obtain ⟨lone, hlo, rfl⟩ := mem_seq hdd
    have hlo' := List.mem_of_getElem? hlo
    obtain ⟨ll3, lsub⟩ := line_is (List.mem_of_mem_take hlo')
    have gg3 := gg.trans g3
    have r03 := r0.mono (g2.gg.trans (e2.trans g3.gg))
    refine sd_for (ds := (linesM abc).map tS) (gi_seqL (gd_var (i := 0) rfl r03)) gg3.gh fun G4 H4 g4 => ?_
    refine ⟨fun j σ'' G'' H'' => ∃ h2 h3 h4 h5 h6 h7, σ'' = [some v0, some v1, h2, h3, h4, h5, h6, h7, none, none] ∧ Gr N0 G H G'' H'' ∧ Ex G4 G'', ⟨h2, h3, h4, h5, h6, h7, rfl, gg3.trans g4, .refl _⟩, ?_, ?_, ?_⟩
    · rintro j σ'' G'' H'' ⟨h2, h3, h4, h5, h6, h7, rfl, gg, e4⟩
      exact ⟨e4, gg.gh⟩
    · rintro j dd σ'' G'' H'' v2 G5 H5 hdd ⟨h2, h3, h4, h5, h6, h7, rfl, gg, e4⟩ g5 r2
      obtain ⟨mate, hma, rfl⟩ := mem_seq hdd
      have hma' := List.mem_of_getElem? hma
      obtain ⟨ml3, msub⟩ := line_is hma'
      have gg5 := gg.trans g5
      have r15 := r1.mono (g4.gg.trans (e4.trans g5.gg))
      obtain ⟨pc, pok, pS⟩ := pair_is hlo' hma'
      have pF : Fine (pairBook lone mate) := fine_of pS pok (by show 3 ≤ 5; omega)
      have rin : ∀ t ∈ readM [lone, mate], ∀ x ∈ t, x ∈ abc := read_in fun l hl => by
        rcases List.mem_cons.mp hl with z | z
        · rw [z]; exact lsub
        · rw [List.mem_singleton.mp z]; exact msub
      have RI : RInv abc (readM [lone, mate]) := read_inv fun l hl => by
        rcases List.mem_cons.mp hl with z | z
        · rw [z]; exact lsub
        · rw [List.mem_singleton.mp z]; exact msub
      have rfew := RI.few (by decide)
      have okR : okT (readM [lone, mate]) = true := okT_of abc_ok rin
      refine sq_tparDL (x := .lst ((readM [lone, mate]).map tS)) (gd_call (ga_one (gd_is (gd_tup (ga_two (gd_var (i := 1) rfl r15) (gd_var (i := 2) rfl r2)) (by show 2 ≤ 100000; omega)) rfl)) rfl ⟨[lone, mate], abc, rfl, by decide, fun l hl => by
          rcases List.mem_cons.mp hl with z | z
          · rw [z]; exact ⟨by omega, lsub⟩
          · rw [List.mem_singleton.mp z]; exact ⟨by omega, msub⟩, rfl⟩) (gl_lst ga_nil (Nat.zero_le _)) gg5.gh fun v3 F ws G6 H6 g6 r3 hF1 hF2 hF3 rF => ?_
      cases rF
      have gg6 := gg5.trans g6
      have hFH : H F = none := gg5.free hF1
      refine sd_for (ds := abc.map .str) (gi_seqT (gabc _ _)) gg6.gh fun G7 H7 g7 => ?_
      have gg7 := gg6.trans g7
      refine ⟨fun k σ3 G' H' => ∃ h5 h6 vs, σ3 = [some v0, some v1, some v2, some v3, some (.ref F), h5, h6, h7, none, none] ∧ Gr N0 G H G' H' ∧ Ex G7 G' ∧ G' F = none ∧ H' F = some (.lst vs) ∧ Rps G' (((abc.take k).map (pairItem lone mate)).map (bkItem false)) vs,
        ⟨h5, h6, [], rfl, gg7, .refl _, g7.off hF2 hF3, g7.at0 hF3, .nil⟩, ?_, ?_, ?_⟩
      · rintro k σ3 G' H' ⟨h5, h6, vs, rfl, gg, e7, _⟩
        exact ⟨e7, gg.gh⟩
      · rintro k dd σ3 G' H' v5 G8 H8 hdd ⟨h5, h6, vs, rfl, gg, e7, gF, hF, rv⟩ g8 r5
        obtain ⟨own, how, rfl⟩ := mem_seq hdd
        have hka : k < abc.length := (List.getElem?_eq_some_iff.mp how).1
        have gg8 := gg.trans g8
        have r38 := r3.mono (g7.gg.trans (e7.trans g8.gg))
        have fin : ∀ t ∈ (readM [lone, mate]).filter fun lot => decide (own ∈ lot), t ∈ readM [lone, mate] := fun t ht => (List.mem_filter.mp ht).1
        have flen : ((readM [lone, mate]).filter fun lot => decide (own ∈ lot)).length ≤ 32 := Nat.le_trans (List.length_filter_le _ _) rfew
        refine sq_asg (d := tT (lowerM ((readM [lone, mate]).filter fun lot => decide (own ∈ lot)))) (gd_call (ga_one (GL.gd (gl_lc1 (vs := [8]) (j := 8) (xs := readM [lone, mate]) (e := tS) (p := fun lot => decide (own ∈ lot)) (f := tS) (gi_seqL (gd_var (i := 3) rfl r38)) (by omega) (fun _ => rfl)
            (fun t ht G' v e' r' => gt_test (gd_inT1 (neg := false) (gd_var (i := 5) rfl (r5.mono e')) (gd_var (i := 8) rfl r') (.inl rfl)))
            (fun t ht _ G' v e' r' => gd_var (i := 8) rfl r')))) rfl ⟨(readM [lone, mate]).filter fun lot => decide (own ∈ lot), rfl, okT_filter okR, by omega, fun t ht => by have := RI.len (by decide) (fin t ht); omega, rfl⟩) gg8.gh fun v6 G9 H9 g9 r6 => ?_
        have gg9 := gg8.trans g9
        have hF9 := g9.at0 (g8.at0 hF)
        have gF9 := g9.off (g8.off gF hF) (g8.at0 hF)
        have vl : vs.length = k := by
          have := rv.len
          rw [List.length_map, List.length_map, List.length_take] at this
          omega
        refine s_append (d := bkItem false (pairItem lone mate own)) (i := 4) rfl (gd_is (gd_tup (ga_two (gd_var (i := 5) rfl (r5.mono g9.gg)) (gd_cb (ga_one (GL.gd (gl_cb (ga_one (gd_is (GL.gd (gl_lc0 (vs := [8]) (j := 8) (xs := lowerM ((readM [lone, mate]).filter fun lot => decide (own ∈ lot))) (e := tS) (f := fun lot => tS (lot.filter fun far => !decide (far = own))) (gi_seqT (gd_var (i := 6) rfl r6)) (by have := lower_len ((readM [lone, mate]).filter fun lot => decide (own ∈ lot)); omega) (fun _ => rfl)
            fun t ht G' v e' r' => gd_cb (ga_one (GL.gd (gl_lc1 (vs := [9]) (j := 9) (xs := t) (e := .str) (p := fun far => !decide (far = own)) (f := .str) (gi_seqT (gd_var (i := 8) rfl r')) (by have := RI.len (by decide) (fin t (lower_mem ht)); omega) (fun _ => rfl)
              (fun x hx G2 v2 e2 r2 => gt_test (gd_op (gd_var (i := 9) rfl r2) (gd_var (i := 5) rfl ((r5.mono g9.gg).mono (e'.trans e2))) ro_neS))
              (fun x hx _ G2 v2 e2 r2 => gd_var (i := 9) rfl r2)))) rb_tupL)) (by rw [List.map_map]; rfl))) (rl_sortT (ts := (lowerM ((readM [lone, mate]).filter fun lot => decide (own ∈ lot))).map fun lot => lot.filter fun far => !decide (far = own)) (.inl rfl) (by rw [List.length_map]; have := lower_len ((readM [lone, mate]).filter fun lot => decide (own ∈ lot)); omega))))) rb_tupL)) (by show 2 ≤ 100000; omega)) (by exact pair_bk lone mate own)) gg9.gh hF9 (by have : abc.length = 3 := rfl; omega) fun v9 G10 H10 g10 r9 hF10 => ?_
        have gF10 := g10.off gF9 hF9
        have gg10 := (gg9.trans g10).put (p := F) (o := .lst (vs ++ [v9])) (.inl hFH) gF10
        refine ⟨G10, _, _, vs ++ [v9], rfl, gg10, e7.trans (g8.gg.trans (g9.gg.trans g10.gg)), gF10, upd_same, ?_⟩
        rw [take_next' how, List.map_append, List.map_append]
        exact (rv.mono (g8.gg.trans (g9.gg.trans g10.gg))).append (.one r9)
      · rintro σ3 G' H' ⟨h5, h6, vs, rfl, gg, e7, gF, hF, rv⟩
        rw [List.length_map, List.take_length, ← pair_map] at rv
        have gs := gg.seal hFH hF
        have ms := Ex.new (o := HO.lst vs) gF
        have rFs : Rp (upd G' F (.lst vs)) (.lst ((pairBook lone mate).map (bkItem false))) (.ref F) := .lst upd_same (rv.mono ms)
        have e5s := g6.gg.trans (g7.gg.trans (e7.trans ms))
        obtain ⟨rolls, e9, hl9, hro, hrd⟩ := told_all pF
        refine sq_asg (d := tT rolls) (gd_is (gd_call (ga_one (gd_tupF (gd_var (i := 4) rfl rFs))) rfl ⟨bkT (pairBook lone mate), pairBook lone mate, rfl, .inl rfl, pF, rfl⟩) e9) gs.gh fun v7 G9 H9 g9 r7 => ?_
        have gg9 := gs.trans g9
        refine s_if (b := false) (gt_is (gt_or (gt_not (gt_test (gd_call (ga_two (gd_tupF (gd_var (i := 4) rfl (rFs.mono g9.gg))) (gd_var (i := 7) rfl r7)) rfl ⟨pairBook lone mate, rolls, rfl, pS, pok, by show 3 ≤ 5; omega, hro, rfl⟩))) fun _ => gt_B (gd_op (gd_cb (ga_one (gd_var (i := 7) rfl r7)) rb_lenT)
            (gd_op (r := rI0 fun i j => V.int (i + j)) (gd_c (.int 1)) (gd_cb (ga_one (gd_op (gd_var (i := 1) rfl ((r15.mono e5s).mono g9.gg)) (gd_var (i := 2) rfl ((r2.mono e5s).mono g9.gg)) (ro_neT (okS_sub abc_ok lsub) (okS_sub abc_ok msub)))) rb_intB) ro_int) ro_neI)) ?_) gg9.gh (fun z => nomatch z) fun _ G10 H10 g10 => ?_
        · rw [hrd, decide_eq_true rfl, List.length_map, hl9, pc]
          by_cases z : lone = mate
          · simp [z]
          · simp [z]
        · exact ⟨G10, _, _, _, _, _, _, rfl, gg9.trans g10, e4.trans (g5.gg.trans (e5s.trans (g9.gg.trans g10.gg)))⟩
    · rintro σ'' G'' H'' ⟨h2, h3, h4, h5, h6, h7, rfl, gg, e4⟩
      exact ⟨G'', _, _, _, _, _, _, _, rfl, gg, e2.trans (g3.gg.trans (g4.gg.trans e4))⟩
  · rintro σ' G' H' ⟨h1, h2, h3, h4, h5, h6, h7, rfl, gg, e2⟩
    exact q (.bl true) G' H' gg (.bl true)
end
end Up

/-! text Up32 -/
set_option Elab.async false
set_option linter.all false
set_option maxRecDepth 100000
set_option maxHeartbeats 4000000
/-! the law's own defs: right -/
/-! the law's own defs: by_hand_right -/
namespace Up
open PySem PySem.Spec PyProof.Rows L2 UpS
/-! ### f(k = v) -/
theorem kbn_one {K : PySem.W.Frag} {x p : Str} {st : Stmt} {f : Addr} {fd : FuncData} (F : Fun K x x st f fd)
    (h : ∀ (kV doc pm : Value) (an : Option Addr) (cdv ct w : Value), bindArgs (PySem.W.fnOf x x (defArgs st) (defBody st) (defScope st) .none kV doc pm an cdv ct) ⟨[], [(p, w)]⟩ = pure [(p, w)]) : KBn K fd [p] 0 [p] (fun _ ws => ws) (fun _ zs => zs) := by
  obtain ⟨oc, od, kV, doc, pm, an, cdv, ct, osl, rfl, lk, hcd⟩ := F.ex
  refine ⟨fun s us ws _ h1 h2 => ?_, fun _ r => r⟩
  obtain rfl := List.length_eq_zero_iff.mp h1
  match ws, h2 with
  | [w], _ => exact .of_eq (h kV doc pm an cdv ct w)
section
variable {X : Cx} {CX : CXT} {k : Nat} {f : Addr} {fd : FuncData} {ps ks : List Str} {sp : Sp} {E : XK} {x : Str} {p pos : Pos} {kws : List Keyword} {tk : TA} {g : List Value → List Value → List Value} {gV : List V → List V → List V}
theorem pe_callN0 (F : FnOk X.prog X.w X.K X.mg X.base CX k f fd ps sp) (hr : Room k X.A) (hg : Gl X x) (hm : X.mg x = some (.ref f)) (hk : PySem.W.keepIn X.K (.ref f) = true) (hb : KBn X.K fd ps 0 ks g gV) (hx : Passes CX X E)
    (hkw : PK X kws tk) (hall : (backToKw pos (keywordEach kws X.env)).all (·.1.isSome) = true := by rfl) (hks : (backToKw pos (keywordEach kws X.env)).filterMap (·.1) = ks := by rfl)
    (hdb : (x == ("__debug__" : Str)) = false := by decide) (hpl : ((backTo pos (starEach [] X.env)).any (·.1) || (backToKw pos (keywordEach kws X.env)).any (·.1.isNone)) = false := by rfl) :
    PE X (.Call (.Name x p) [] kws pos) (tCallN 0 ks.length sp gV E tNil tk) := by
  refine ⟨fun pins s σ H Q I h => ?_⟩
  refine wpAny_Call_Name_kw (ld_glob I hg hm ?_ hdb)
  refine PySem.W.callWith_KW0 (h₀ := X.base) I.ok.mod.kin hk hall (thn (hkw.run pos pins s σ H _ I h) fun ws s2 ⟨zs, H2, I2, rz, l1, l2, q2⟩ => ⟨I2.kIn, ?_⟩) hpl
  rw [hks]
  exact run_fnN (us := []) (vs := []) F hr hb hx I2 .nil rz l1 l2 q2
end
section
variable {σ : L2.St} {G : Hp} {tr tk : TA} {ds : List D} {d : D}
theorem gd_callN0 {n : Nat} {F : List D → D → Prop} {E : XK} (h : GA tk σ G ds) (hn : ds.length = n) (hF : F ds d) : GD (tCallN 0 n (spD n F) (fun _ zs => zs) E tNil tk) σ G d := fun H e Q q =>
  h H e _ fun vs G1 H1 g r => by
    have hl : vs.length = n := by rw [← r.len]; exact hn
    exact ⟨rfl, hl, hl, ds, d, G1, g.gh, r, hF, fun v G2 H2 g2 r2 => q v G2 H2 (g.trans g2) r2⟩
theorem gd_tupE (h : GA tr σ G ds) (hl : ds.length ≤ 100000) : GD (tTupF tr) σ G (.ftup ds) := fun H e Q q =>
  h H e _ fun vs G' H' g r => ⟨sz_of (by rw [← r.len]; exact hl), fun o p ho hp => q _ _ _ (g.data hp) (.ftup upd_same ho (r.mono (Ex.new (g.gh.free hp))))⟩
end
/-! ### what is told -/
theorem hand_at {s : Str} (h : s ∈ rowsH) : wordsOk s = true ∧ Sm (wordsM s) ∧ (wordsM s).length ≤ 5 ∧ okB (wordsM s) = true := by
  have h1 := Bool.and_eq_true_iff.mp (List.all_eq_true.mp hand_ok s h)
  exact ⟨h1.1, sm_of (by decide) h1.2⟩
def bkA0 : Bk := [(("a" : Str), ([] : T2))]
def bkA1 : Bk := [(("a" : Str), ([[]] : T2))]
theorem nil_ok : smB [] = true := by decide +kernel
theorem a0_ok : smB bkA0 = true := by decide +kernel
theorem a1_ok : smB bkA1 = true := by decide +kernel
theorem fine_sm {b : Bk} (h : smB b = true) : Fine b := by
  obtain ⟨S, l, ok⟩ := sm_of (b := b) (k := 5) (by decide) h
  exact fine_of S ok l
theorem chain_fine : wordsOk chainB = true ∧ Fine (wordsM chainB) := by
  have h := Bool.and_eq_true_iff.mp chain_ok
  exact ⟨h.1, fine_sm h.2⟩
def letters : Str := "abcdefg"
theorem letters_are : letters.cps.toList.map (fun c => (⟨#[c]⟩ : Str)) = wideN := by decide +kernel
def row0 : Str := "a 0; b 0; c a b"
def wideD : D := .lst ((wideN.map fun x : Str => ([x, "h"] : T1)).map tS)
def gotD : List D := [.tup [], .tup [], tT [["a"]], tT [abc]]
def endD : List D := gotD ++ [.bl true] ++ [.int 7, wideD]
theorem end_sh : ShS 4 (.lst endD) := by
  refine ⟨by show 7 ≤ 1000; omega, fun d hd => ?_⟩
  have hS : ∀ t : T1, t.length ≤ 1000 → ShS 2 (tS t) := fun t h => ⟨by rw [List.length_map]; exact h, fun d hd => by
    obtain ⟨x, _, rfl⟩ := List.mem_map.mp hd
    trivial⟩
  have hT : ∀ ts : T2, ts.length ≤ 1000 → (∀ t ∈ ts, t.length ≤ 1000) → ShS 3 (tT ts) := fun ts h h2 => ⟨by rw [List.length_map]; exact h, fun d hd => by
    obtain ⟨x, hx, rfl⟩ := List.mem_map.mp hd
    exact hS x (h2 x hx)⟩
  have hL : ∀ ts : T2, ts.length ≤ 1000 → (∀ t ∈ ts, t.length ≤ 1000) → ShS 3 (.lst (ts.map tS)) := fun ts h h2 => ⟨by rw [List.length_map]; exact h, fun d hd => by
    obtain ⟨x, hx, rfl⟩ := List.mem_map.mp hd
    exact hS x (h2 x hx)⟩
  have h0 : ShS 3 (.tup []) := ⟨Nat.zero_le _, fun d hd => nomatch hd⟩
  have e : endD = [.tup [], .tup [], tT [["a"]], tT [abc], .bl true, .int 7, wideD] := rfl
  rw [e] at hd
  rcases List.mem_cons.mp hd with z | hd
  · rw [z]; exact h0
  rcases List.mem_cons.mp hd with z | hd
  · rw [z]; exact h0
  rcases List.mem_cons.mp hd with z | hd
  · rw [z]; exact hT _ (by decide) (by decide +kernel)
  rcases List.mem_cons.mp hd with z | hd
  · rw [z]; exact hT _ (by decide) (by decide +kernel)
  rcases List.mem_cons.mp hd with z | hd
  · rw [z]; trivial
  rcases List.mem_cons.mp hd with z | hd
  · rw [z]; trivial
  rw [List.mem_singleton.mp hd]
  exact hL _ (by decide) (by decide +kernel)
section
variable {P : Program} {w : World} {K : PySem.W.Frag} {mg : Str → Option Value} {base : Heap}
theorem ok_Lby_hand_right (M : Mo mg) (h : Df K mg "_law_by_hand_right" s_Lby_hand_right p_Lby_hand_right) (hF : At P w K mg base "fewest_lists" s_fewest_lists p_fewest_lists 44 (spD 1 fFewest)) (hI : At P w K mg base "_law_words" s_Lwords p_Lwords 1 (spD 1 fWords))
    (hV : At P w K mg base "_law_serves" s_Lserves p_Lserves 3 (spD 2 fServes)) (hA : At P w K mg base "_law_same" s_Lsame p_Lsame 4 (spD 2 (fSame 4))) (hL : At P w K mg base "_law_lists" s_Llists p_Llists 5 (spD 1 (fLists 5)))
    (hP : At P w K mg base "_law_pairs_right" s_Lpairs_right p_Lpairs_right 45 (spD 0 fTrue)) : At P w K mg base "_law_by_hand_right" s_Lby_hand_right p_Lby_hand_right 46 (spD 0 fTrue) := by
  obtain ⟨f_fewest_lists, fd_fewest_lists, F_fewest_lists, b_fewest_lists, g_fewest_lists, G_fewest_lists⟩ := hF
  obtain ⟨f_Lwords, fd_Lwords, F_Lwords, b_Lwords, g_Lwords, G_Lwords⟩ := hI
  obtain ⟨f_Lserves, fd_Lserves, F_Lserves, b_Lserves, g_Lserves, G_Lserves⟩ := hV
  obtain ⟨f_Lsame, fd_Lsame, F_Lsame, b_Lsame, g_Lsame, G_Lsame⟩ := hA
  obtain ⟨f_Llists, fd_Llists, F_Llists, b_Llists, g_Llists, G_Llists⟩ := hL
  obtain ⟨f_Lpairs_right, fd_Lpairs_right, F_Lpairs_right, b_Lpairs_right, g_Lpairs_right, G_Lpairs_right⟩ := hP
  obtain ⟨f, fd, F, b, g⟩ := h
  have kb_fewest : KBn K fd_fewest_lists ["book"] 0 ["book"] (fun _ ws => ws) (fun _ zs => zs) := kbn_one F_fewest_lists (fun _ _ _ _ _ _ _ => by rfl)
  refine ⟨f, fd, F, b, g, F.ok c_Lby_hand_right (fun vs H Q E h => h.1) (fun cdv A outer s H vs Q E hr h => ?_)⟩
  obtain ⟨hvs, ds, d, G, e, r, rfl, q⟩ := h
  obtain rfl := List.length_eq_zero_iff.mp hvs
  refine ⟨_, (pss_cons
    (ps_set (i := 0) c_Lby_hand_right.nd rfl (by first | exact .inl rfl | exact .inr rfl) (pe_lst (pa_cons pe_str (pa_cons pe_str (pa_cons pe_str (pa_cons pe_str (pa_cons pe_str pa_nil)))))))
    (pss_cons
    (ps_expr (pe_bm PySem.F.plainAttrs_list PySem.F.slot_list_append PySem.F.type_list_append mt_append (pv 0) (pa_cons pe_str pa_nil)))
    (pss_cons
    (ps_set (i := 1) c_Lby_hand_right.nd rfl (by first | exact .inl rfl | exact .inr rfl) (pe_lst (pa_cons pe_int (pa_cons pe_int (pa_cons pe_int (pa_cons pe_int (pa_cons pe_int (pa_cons pe_int pa_nil))))))))
    (pss_cons
    (ps_for PassesOwn.never rfl (k_enumU K (by rfl) M.enumerate_ (pa_cons (pv 0) pa_nil)) (k_tup2 K (pgs_cons (pg_name (i := 2) c_Lby_hand_right.nd rfl (by first | exact .inl rfl | exact .inr rfl)) (pgs_cons (pg_name (i := 3) c_Lby_hand_right.nd rfl (by first | exact .inl rfl | exact .inr rfl)) pgs_nil))) (pss_cons
        (ps_set (i := 4) c_Lby_hand_right.nd rfl (by first | exact .inl rfl | exact .inr rfl) (pe_call G_fewest_lists (hr.mono (by omega)) (by rfl) g_fewest_lists F_fewest_lists.kp b_fewest_lists .nil pass0 (pa_cons (pe_call G_Lwords (hr.mono (by omega)) (by rfl) g_Lwords F_Lwords.kp b_Lwords .nil pass0 (pa_cons (pv 3) pa_nil)) pa_nil)))
        (pss_one
        (ps_if (PW.pt (pw_or (pt_not (pt_val (pe_callB (k_isi K) (by rfl) M.isinstance_ PyProof.Rows.boot_isinstance (pa_cons (pv 4) (pa_cons (pe_bltn (v := .ty "tuple") (by rfl) M.tuple_ PyProof.Rows.boot_tuple rfl) pa_nil))))) (pw_or (pt_cmpR op_ne (pe_callB (k_len K) (by rfl) M.len_ PySem.boot_len (pa_cons (pv 4) pa_nil)) (pe_ix (k_ixL K) (pv 1) (pv 2) (fun _ _ => rfl)) (nomark _)) (pw_or1 (pt_not (pt_val (pe_call G_Lserves (hr.mono (by omega)) (by rfl) g_Lserves F_Lserves.kp b_Lserves .nil pass0 (pa_cons (pe_call G_Lwords (hr.mono (by omega)) (by rfl) g_Lwords F_Lwords.kp b_Lwords .nil pass0 (pa_cons (pv 3) pa_nil)) (pa_cons (pv 4) pa_nil))))))))) (pss_one
            (ps_ret pe_bl)) pss_nil))))
    (pss_cons
    (ps_set (i := 5) c_Lby_hand_right.nd rfl (by first | exact .inl rfl | exact .inr rfl) (pe_lst (pa_cons (pe_call G_fewest_lists (hr.mono (by omega)) (by rfl) g_fewest_lists F_fewest_lists.kp b_fewest_lists .nil pass0 (pa_cons (pe_tupF pa_nil) pa_nil)) (pa_cons (pe_call G_fewest_lists (hr.mono (by omega)) (by rfl) g_fewest_lists F_fewest_lists.kp b_fewest_lists .nil pass0 (pa_cons (pe_tupF (pa_cons (pe_tup (pa_cons pe_str (pa_cons (pe_tup pa_nil) pa_nil))) pa_nil)) pa_nil)) (pa_cons (pe_call G_fewest_lists (hr.mono (by omega)) (by rfl) g_fewest_lists F_fewest_lists.kp b_fewest_lists .nil pass0 (pa_cons (pe_tupF (pa_cons (pe_tup (pa_cons pe_str (pa_cons (pe_tup (pa_cons (pe_tup pa_nil) pa_nil)) pa_nil))) pa_nil)) pa_nil)) (pa_cons (pe_call G_fewest_lists (hr.mono (by omega)) (by rfl) g_fewest_lists F_fewest_lists.kp b_fewest_lists .nil pass0 (pa_cons (pe_call G_Lwords (hr.mono (by omega)) (by rfl) g_Lwords F_Lwords.kp b_Lwords .nil pass0 (pa_cons pe_str pa_nil)) pa_nil)) pa_nil))))))
    (pss_cons
    (ps_set (i := 1) c_Lby_hand_right.nd rfl (by first | exact .inl rfl | exact .inr rfl) (pe_lst (pa_cons (pe_tup pa_nil) (pa_cons (pe_tup pa_nil) (pa_cons (pe_tup (pa_cons (pe_tup (pa_cons pe_str pa_nil)) pa_nil)) (pa_cons (pe_tup (pa_cons (pe_tup (pa_cons pe_str (pa_cons pe_str (pa_cons pe_str pa_nil)))) pa_nil)) pa_nil))))))
    (pss_cons
    (ps_set (i := 5) c_Lby_hand_right.nd rfl (by first | exact .inl rfl | exact .inr rfl) (pe_op op_cat (pv 5) (pe_lst (pa_cons (pe_call G_Lserves (hr.mono (by omega)) (by rfl) g_Lserves F_Lserves.kp b_Lserves .nil pass0 (pa_cons (pe_call G_Lwords (hr.mono (by omega)) (by rfl) g_Lwords F_Lwords.kp b_Lwords .nil pass0 (pa_cons (pe_ix (k_ixL K) (pv 0) pe_int (fun _ _ => rfl)) pa_nil)) (pa_cons (pe_callN0 G_fewest_lists (hr.mono (by omega)) (by rfl) g_fewest_lists F_fewest_lists.kp kb_fewest pass0 (pk_cons (pe_call G_Llists (hr.mono (by omega)) (by rfl) g_Llists F_Llists.kp b_Llists .nil pass0 (pa_cons (pe_call G_Lwords (hr.mono (by omega)) (by rfl) g_Lwords F_Lwords.kp b_Lwords .nil pass0 (pa_cons (pe_ix (k_ixL K) (pv 0) pe_int (fun _ _ => rfl)) pa_nil)) pa_nil)) pk_nil)) pa_nil))) pa_nil))))
    (pss_cons
    (ps_set (i := 6) c_Lby_hand_right.nd rfl (by first | exact .inl rfl | exact .inr rfl) (pe_call G_Lwords (hr.mono (by omega)) (by rfl) g_Lwords F_Lwords.kp b_Lwords .nil pass0 (pa_cons pe_str pa_nil)))
    (pss_cons
    (ps_set (i := 4) c_Lby_hand_right.nd rfl (by first | exact .inl rfl | exact .inr rfl) (pe_call G_fewest_lists (hr.mono (by omega)) (by rfl) g_fewest_lists F_fewest_lists.kp b_fewest_lists .nil pass0 (pa_cons (pv 6) pa_nil)))
    (pss_cons
    (ps_set (i := 5) c_Lby_hand_right.nd rfl (by first | exact .inl rfl | exact .inr rfl) (pe_op op_cat (pv 5) (pe_lst (pa_cons (pe_callB (k_len K) (by rfl) M.len_ PySem.boot_len (pa_cons (pv 4) pa_nil)) (pa_cons (pe_callB (k_sorted K w hr.units) (by rfl) M.sorted_ PyProof.Rows.boot_sorted (pa_cons (pe_lc (own := [("_law_line_so", 7)]) rfl c_Lby_hand_right.nd (k_seq K (pv 4)) (blkOk_by (by kernel_rfl)) (fun _ _ _ _ _ => (pg_name (i := 7) c_Lby_hand_right.nd rfl (by first | exact .inl rfl | exact .inr rfl))) (fun _ _ _ _ _ => pts_nil) (fun _ _ _ _ _ => (pe_slice (k_slA K) (pv 7) po_none (po_some pe_int)))) pa_nil)) pa_nil)))))
    (pss_cons
    (ps_set (i := 1) c_Lby_hand_right.nd rfl (by first | exact .inl rfl | exact .inr rfl) (pe_op op_cat (pv 1) (pe_lst (pa_cons pe_bl (pa_cons pe_int (pa_cons (pe_lc (own := [("_law_own", 3)]) rfl c_Lby_hand_right.nd (pi_str pe_str) (blkOk_by (by kernel_rfl)) (fun _ _ _ _ _ => (pg_name (i := 3) c_Lby_hand_right.nd rfl (by first | exact .inl rfl | exact .inr rfl))) (fun _ _ _ _ _ => pts_nil) (fun _ _ _ _ _ => (pe_tup (pa_cons (pv 3) (pa_cons pe_str pa_nil))))) pa_nil))))))
    (pss_one
    (ps_ret (pe_and (pe_call G_Lsame (hr.mono (by omega)) (by rfl) g_Lsame F_Lsame.kp b_Lsame .nil pass0 (pa_cons (pv 5) (pa_cons (pv 1) pa_nil))) (pe_one (pe_call0 G_Lpairs_right (hr.mono (by omega)) (by rfl) g_Lpairs_right F_Lpairs_right.kp b_Lpairs_right .nil pass0)))))))))))))))), ?_⟩
  refine sq_asgL (gl_lst (ga_cons (gd_c (.str _)) (ga_cons (gd_c (.str _)) (ga_cons (gd_c (.str _)) (ga_cons (gd_c (.str _)) (ga_one (gd_c (.str _))))))) (by show 5 ≤ 100000; omega)) e fun R vs G1 H1 g1 hR1 hR2 hR3 rR => ?_
  have lR := rR.len
  refine s_append (i := 0) rfl (gd_c (.str _)) g1.gh hR3 (by rw [← lR]; show 5 < 100000; omega) fun v G2 H2 g2 r2 hR => ?_
  have gR := g2.off hR2 hR3
  have gs := ((g1.trans g2).put (p := R) (o := .lst (vs ++ [v])) (.inl hR1) gR).seal hR1 upd_same
  have rows : Rp (upd G2 R (.lst (vs ++ [v]))) (lS rowsH) (.ref R) := .lst upd_same (((rR.mono g2.gg).append (.one r2)).mono (Ex.new gR))
  refine sq_asg (d := .lst (dueH.map fun n : Nat => .int (n : Int))) (gd_is (gd_lst (ga_cons (gd_c (.int 2)) (ga_cons (gd_c (.int 1)) (ga_cons (gd_c (.int 3)) (ga_cons (gd_c (.int 2)) (ga_cons (gd_c (.int 2)) (ga_one (gd_c (.int 3)))))))) (by show 6 ≤ 100000; omega)) rfl) gs.gh fun v1 G3 H3 g3 r1 => ?_
  have gg3 := gs.trans g3
  have rows3 := rows.mono g3.gg
  refine sd_for (ds := enumD (rowsH.map .str)) (gi_enum (.inl rfl) (ga_one (gd_var (i := 0) rfl rows3))) gg3.gh fun G4 H4 g4 => ?_
  refine ⟨fun i σ' G' H' => ∃ h2 h3 h4, σ' = [some (.ref R), some v1, h2, h3, h4, none, none, none] ∧ Gr N0 G H G' H' ∧ Ex G4 G', ⟨none, none, none, rfl, gg3.trans g4, .refl _⟩, ?_, ?_, ?_⟩
  · rintro i σ' G' H' ⟨h2, h3, h4, rfl, gg, e4⟩
    exact ⟨e4, gg.gh⟩
  · rintro i dd σ' G' H' v5 G5 H5 hdd ⟨h2, h3, h4, rfl, gg, e4⟩ g5 r5
    obtain ⟨x, hx, rfl⟩ := enumD_at hdd
    obtain ⟨s, hs, rfl⟩ := mem_seq hx
    obtain ⟨wok, wS, wl, wB⟩ := hand_at (List.mem_of_getElem? hs)
    have wF : Fine (wordsM s) := fine_of wS wB wl
    have gg5 := gg.trans g5
    refine tg_tup2 r5 gg5.gh fun va vb ra rb => ?_
    obtain ⟨rolls, e9, hl9, hro, hrd⟩ := told_all wF
    refine sq_asg (d := tT rolls) (gd_is (gd_call (ga_one (gd_call (ga_one (gd_var (i := 3) rfl rb)) rfl ⟨s, rfl, wok, rfl⟩)) rfl ⟨bkT (wordsM s), wordsM s, rfl, .inl rfl, wF, rfl⟩) e9) gg5.gh fun v6 G6 H6 g6 r6 => ?_
    have gg6 := gg5.trans g6
    have due : dueH[i]? = some (pathChains (wordsM s)).length := by rw [← hand_due, List.getElem?_map, hs]; rfl
    refine s_if (b := false) (gt_is (gt_or (gt_not (gt_test (gd_isi1 (b := true) (gd_var (i := 4) rfl r6) rfl kit_tt))) fun _ => gt_or (gt_B (gd_op (gd_cb (ga_one (gd_var (i := 4) rfl r6)) rb_lenT) (gd_op (gd_var (i := 1) rfl (((r1.mono g4.gg).mono e4).mono (g5.gg.trans g6.gg))) (gd_var (i := 2) rfl (ra.mono g6.gg)) (ro_ixL (d := .int ((pathChains (wordsM s)).length : Nat)) (atI_nat (by rw [List.getElem?_map, due]; rfl)))) ro_neI)) fun _ =>
        gt_not (gt_test (gd_call (ga_two (gd_call (ga_one (gd_var (i := 3) rfl (rb.mono g6.gg))) rfl ⟨s, rfl, wok, rfl⟩) (gd_var (i := 4) rfl r6)) rfl ⟨wordsM s, rolls, rfl, wS, wB, wl, hro, rfl⟩))) ?_) gg6.gh (fun z => nomatch z) fun _ G7 H7 g7 => ?_
    · rw [hrd, decide_eq_true rfl, List.length_map, hl9]
      simp
    · exact ⟨G7, _, _, _, rfl, gg6.trans g7, e4.trans (g5.gg.trans (g6.gg.trans g7.gg))⟩
  · rintro σ' G' H' ⟨h2, h3, h4, rfl, gg, e4⟩
    have rows4 := (rows3.mono g4.gg).mono e4
    obtain ⟨cok, cF⟩ := chain_fine
    refine sq_asg (d := .lst gotD) (gd_is (gd_lst (ga_cons (gd_call (ga_one (gd_is (gd_tupE ga_nil (Nat.zero_le _)) (x := bkT []) rfl)) rfl ⟨bkT [], [], rfl, .inl rfl, fine_sm nil_ok, rfl⟩)
        (ga_cons (gd_call (ga_one (gd_is (gd_tupE (ga_one (gd_tup (ga_two (gd_c (.str "a")) (gd_tup ga_nil (Nat.zero_le _))) (by show 2 ≤ 100000; omega))) (by show 1 ≤ 100000; omega)) (x := bkT bkA0) rfl)) rfl ⟨bkT bkA0, bkA0, rfl, .inl rfl, fine_sm a0_ok, rfl⟩)
        (ga_cons (gd_call (ga_one (gd_is (gd_tupE (ga_one (gd_tup (ga_two (gd_c (.str "a")) (gd_tup (ga_one (gd_tup ga_nil (Nat.zero_le _))) (by show 1 ≤ 100000; omega))) (by show 2 ≤ 100000; omega))) (by show 1 ≤ 100000; omega)) (x := bkT bkA1) rfl)) rfl ⟨bkT bkA1, bkA1, rfl, .inl rfl, fine_sm a1_ok, rfl⟩)
        (ga_one (gd_call (ga_one (gd_call (ga_one (gd_c (.str chainB))) rfl ⟨chainB, rfl, cok, rfl⟩)) rfl ⟨bkT (wordsM chainB), wordsM chainB, rfl, .inl rfl, cF, rfl⟩))))) (by show 4 ≤ 100000; omega)) ?_) gg.gh fun v5 G5 H5 g5 r5 => ?_
    · rw [told_nil, show fewestM bkA0 = [] from told_a0, show fewestM bkA1 = [some [("a" : Str)]] from told_a1, chain_told]
      rfl
    have gg5 := gg.trans g5
    refine sq_asg (d := .lst gotD) (gd_is (gd_lst (ga_cons (gd_tup ga_nil (Nat.zero_le _)) (ga_cons (gd_tup ga_nil (Nat.zero_le _)) (ga_cons (gd_tup (ga_one (gd_tup (ga_one (gd_c (.str "a"))) (by show 1 ≤ 100000; omega))) (by show 1 ≤ 100000; omega))
        (ga_one (gd_tup (ga_one (gd_tup (ga_cons (gd_c (.str "a")) (ga_cons (gd_c (.str "b")) (ga_one (gd_c (.str "c"))))) (by show 3 ≤ 100000; omega))) (by show 1 ≤ 100000; omega)))))) (by show 4 ≤ 100000; omega)) rfl) gg5.gh fun v6 G6 H6 g6 r6 => ?_
    have gg6 := gg5.trans g6
    have m46 := g5.gg.trans g6.gg
    obtain ⟨wok, wS, wl, wB⟩ := hand_at (s := row0) (by decide +kernel)
    have wF : Fine (wordsM row0) := fine_of wS wB wl
    obtain ⟨rolls, e9, hl9, hro, hrd⟩ := told_all wF
    have gwords : GD (tCall (spD 1 fWords) [] E0 (tCons (tOp (rIxL K) (tVar 0) (tC (.int 0))) tNil)) [some (.ref R), some v6, h2, h3, h4, some v5, none, none] G6 (bkT (wordsM row0)) :=
      gd_call (ga_one (gd_op (gd_var (i := 0) rfl (rows4.mono m46)) (gd_c (.int 0)) (ro_ixL (d := .str row0) (atI_nat (j := 0) rfl)))) rfl ⟨row0, rfl, wok, rfl⟩
    refine sq_asg (d := .lst (gotD ++ [.bl true])) (gd_op (gd_var (i := 5) rfl (r5.mono g6.gg)) (gd_lst (ga_one (gd_is (gd_call (ga_two gwords (gd_is (gd_callN0 (ga_one (gd_call (ga_one gwords) rfl ⟨_, rfl, (lists_bk wS).1, rfl⟩)) rfl ⟨_, wordsM row0, rfl, .inr (lists_bk wS).2, wF, rfl⟩) e9)) rfl ⟨wordsM row0, rolls, rfl, wS, wB, wl, hro, rfl⟩) (by rw [hrd, decide_eq_true rfl]))) (by show 1 ≤ 100000; omega)) (ro_catL (by show 5 ≤ 100000; omega))) gg6.gh fun v7 G7 H7 g7 r7 => ?_
    have gg7 := gg6.trans g7
    refine sq_asg (d := bkT (wordsM wideS)) (gd_call (ga_one (gd_c (.str wideS))) rfl ⟨wideS, rfl, wide_ok, rfl⟩) gg7.gh fun v8 G8 H8 g8 r8 => ?_
    have gg8 := gg7.trans g8
    obtain ⟨wr, w1, w2, w3, _⟩ := told_lists wide_fine
    have wlen : wr.length = 7 := by rw [w2, wide_chains]
    have wheads : isort ltT (wr.map fun l => l.take 2) = wideN.map (fun x : Str => ([x, "h"] : T1)) := by
      have h9 := wide_heads
      rw [w1, List.map_map] at h9
      exact h9
    refine sq_asg (d := tT wr) (gd_is (gd_call (ga_one (gd_var (i := 6) rfl r8)) rfl ⟨_, wordsM wideS, rfl, .inl rfl, wide_fine, rfl⟩) (by rw [w1, List.map_map]; rfl)) gg8.gh fun v9 G9 H9 g9 r9 => ?_
    have gg9 := gg8.trans g9
    refine sq_asg (d := .lst endD) (gd_op (gd_var (i := 5) rfl ((r7.mono g8.gg).mono g9.gg)) (gd_lst (ga_two (gd_is (x := .int 7) (gd_cb (ga_one (gd_var (i := 4) rfl r9)) rb_lenT) (by rw [List.length_map, wlen]; rfl))
        (gd_is (x := wideD) (GL.gd (gl_cb (ga_one (gd_is (GL.gd (gl_lc0 (vs := [7]) (j := 7) (xs := wr) (e := tS) (f := fun l => tS (l.take 2)) (gi_seqT (gd_var (i := 4) rfl r9)) (by omega) (fun _ => rfl) fun l hl G' v e' r' => gd_is (gd_slT (gd_var (i := 7) rfl r') go_none (go_some (gd_c (.int 2)))) (by have := cutD_to (ds := l.map D.str) 2; rw [← List.map_take] at this; exact congrArg D.tup this))) (by rw [List.map_map]; rfl))) (rl_sortT (ts := wr.map fun l => l.take 2) (.inl rfl) (by rw [List.length_map]; omega)))) (by rw [wheads]; rfl))) (by show 2 ≤ 100000; omega)) (ro_catL (by show 7 ≤ 100000; omega))) gg9.gh fun v10 G10 H10 g10 r10 => ?_
    have gg10 := gg9.trans g10
    refine sq_asg (d := .lst endD) (gd_op (gd_var (i := 1) rfl ((r6.mono g7.gg).mono (g8.gg.trans (g9.gg.trans g10.gg)))) (gd_lst (ga_cons (gd_c (.bl true)) (ga_two (gd_c (.int 7))
        (gd_is (x := wideD) (GL.gd (gl_lc0 (vs := [3]) (j := 3) (xs := letters.cps.toList) (e := fun c => D.str ⟨#[c]⟩) (f := fun c => tS [⟨#[c]⟩, "h"]) (gi_str (gd_c (.str letters))) (by have := congrArg List.length letters_are; rw [List.length_map] at this; rw [this]; decide) (fun _ => rfl) fun c hc G' v e' r' => gd_is (gd_tup (ga_two (gd_var (i := 3) rfl r') (gd_c (.str "h"))) (by show 2 ≤ 100000; omega)) rfl))
          (by unfold wideD; rw [← letters_are, List.map_map, List.map_map]; rfl)))) (by show 3 ≤ 100000; omega)) (ro_catL (by show 7 ≤ 100000; omega))) gg10.gh fun v11 G11 H11 g11 r11 => ?_
    have gg11 := gg10.trans g11
    exact gd_is (x := .bl true) (gd_and (gd_call (ga_two (gd_var (i := 5) rfl (r10.mono g11.gg)) (gd_var (i := 1) rfl r11)) rfl ⟨.lst endD, rfl, end_sh, rfl⟩) (fun _ => gd_call (F := fTrue) ga_nil rfl rfl)) rfl H11 gg11.gh _ fun v G12 H12 g12 r12 => q v G12 H12 (gg11.trans g12) r12
end
end Up

/-! text Up33 -/
set_option Elab.async false
set_option linter.all false
set_option maxRecDepth 100000
set_option maxHeartbeats 4000000
/-! the law's own defs: right -/
/-! the law itself -/
namespace Up
open PySem PySem.Spec PyProof.Rows L2 UpS
/-- what a callee changed was made on the way -/
theorem Gr.own {G H G1 H1 G2 H2 : Hp} {p : Addr} (a : Gr N0 G H G1 H1) (hp : H p = none) (b : Gr (fun x => x = p) G1 H1 G2 H2) : Gr N0 G H G2 H2 := by
  have c : Gr (fun x => x = p) G H G2 H2 := a.wk0.trans b
  refine ⟨c.gg, c.gh, fun x o _ h => c.hh x o (fun z => ?_) h, c.mm, c.nw⟩
  have z' : x = p := z
  rw [z', hp] at h
  cases h
def spLaw (K : PySem.W.Frag) : Sp := fun vs H Q _ => vs.length = 1 ∧ ∃ (v : V) (a : Addr) (xs : List Int) (G : Hp), vs = [v] ∧ v = .ref a ∧ Ex G H ∧ (∀ H', Ex G H' → SqL K H' a (xs.map V.int)) ∧ xs.length ≤ 100000 ∧ ∀ (G' H' : Hp), Gr N0 G H G' H' → Q (.bl true) H'
section
variable {P : Program} {w : World} {K : PySem.W.Frag} {mg : Str → Option Value} {base : Heap}
theorem ok_law (M : Mo mg) (h : Df K mg "law" s_law p_law) (hB : At P w K mg base "_law_by_hand_right" s_Lby_hand_right p_Lby_hand_right 46 (spD 0 fTrue)) (hC : At P w K mg base "_law_cells" s_Lcells p_Lcells 1 (spCells K))
    (hX : At P w K mg base "_law_box" s_Lbox p_Lbox 1 spBox) (hR : At P w K mg base "_law_right" s_Lright p_Lright 45 spRight) : At P w K mg base "law" s_law p_law 47 (spLaw K) := by
  obtain ⟨f_Lby_hand_right, fd_Lby_hand_right, F_Lby_hand_right, b_Lby_hand_right, g_Lby_hand_right, G_Lby_hand_right⟩ := hB
  obtain ⟨f_Lcells, fd_Lcells, F_Lcells, b_Lcells, g_Lcells, G_Lcells⟩ := hC
  obtain ⟨f_Lbox, fd_Lbox, F_Lbox, b_Lbox, g_Lbox, G_Lbox⟩ := hX
  obtain ⟨f_Lright, fd_Lright, F_Lright, b_Lright, g_Lright, G_Lright⟩ := hR
  obtain ⟨f, fd, F, b, g⟩ := h
  refine ⟨f, fd, F, b, g, F.ok c_law (fun vs H Q E h => h.1) (fun cdv A outer s H vs Q E hr h => ?_)⟩
  obtain ⟨_, v0, a0, xs, G, rfl, hv0, e, r0, hx, q⟩ := h
  refine ⟨_, (pss_cons
    (ps_if (pt_not (pt_val (pe_call0 G_Lby_hand_right (hr.mono (by omega)) (by rfl) g_Lby_hand_right F_Lby_hand_right.kp b_Lby_hand_right .nil pass0))) (pss_one
        (ps_ret pe_bl)) pss_nil)
    (pss_cons
    (ps_set (i := 1) c_law.nd rfl (by first | exact .inl rfl | exact .inr rfl) (pe_call G_Lcells (hr.mono (by omega)) (by rfl) g_Lcells F_Lcells.kp b_Lcells .nil pass0 (pa_cons (pv 0) (pa_cons pe_int pa_nil))))
    (pss_one
    (ps_ret (pe_callB (k_all K) (by rfl) M.all_ PyProof.Rows.boot_all (pa_cons (pe_lc (own := [("_law_k", 2)]) rfl c_law.nd (pi_range1 (by rfl) M.range_ (pa_cons (pe_callB (k_len K) (by rfl) M.len_ PySem.boot_len (pa_cons (pv 1) pa_nil)) pa_nil)) (blkOk_by (by kernel_rfl)) (fun _ _ _ _ _ => (pg_name (i := 2) c_law.nd rfl (by first | exact .inl rfl | exact .inr rfl))) (fun _ _ _ _ _ => pts_nil) (fun _ _ _ _ _ => (pe_call G_Lright (hr.mono (by omega)) (by rfl) g_Lright F_Lright.kp b_Lright .nil pass0 (pa_cons (pe_call G_Lbox (hr.mono (by omega)) (by rfl) g_Lbox F_Lbox.kp b_Lbox .nil pass0 (pa_cons (pv 1) (pa_cons (pv 2) pa_nil))) pa_nil)))) pa_nil)))))), ?_⟩
  refine sq_if (b := false) (gt_not (gt_test (b := true) (gd_call (F := fTrue) ga_nil rfl rfl))) e (fun z => nomatch z) fun _ G1 H1 g1 => ?_
  refine ⟨_, rfl, ?_⟩
  refine ⟨rfl, v0, a0, xs, G1, rfl, hv0, g1.gh, fun H' e' => r0 H' (g1.gg.trans e'), hx, fun ys v1 G2 H2 g2 r1 hy1 hy3 => ?_⟩
  have gg2 := g1.trans g2
  have gr := gi_range (n := ((ys.length : Nat) : Int)) (σ := [some v0, some v1, none]) (G := G2) (ga_one (gd_is (gd_cb (ga_one (gd_var (i := 1) rfl r1)) (rb_lenL (K := K))) (by rw [List.length_map]))) (by omega) (by omega)
  rw [Int.toNat_natCast] at gr
  refine gd_is (x := .bl true) (gd_allm (xs := List.range ys.length) (f := fun _ => true) (ga_one (GL.gd (gl_lc0 (vs := [2]) (j := 2) (e := fun (i : Nat) => D.int (i : Int)) (f := fun _ => D.bl true) gr (by rw [List.length_range]; omega) (fun _ => rfl) fun i hi G3 v3 e3 r3 => ?_)))) (by simp) H2 gg2.gh _ fun v G3 H3 g3 r3 => by
    cases r3
    exact q G3 H3 (gg2.trans g3)
  have hi' := List.mem_range.mp hi
  cases r3
  intro H3 x3 Q3 q3
  refine ⟨v1, rfl, _, rfl, ?_⟩
  refine ⟨rfl, v1, ys, i, G3, rfl, x3, r1.mono e3, hi', by omega, fun p G4 H4 g4 hp gp hu => ?_⟩
  exact ⟨rfl, p, G4, rfl, g4.gh, gp, hu, fun G5 H5 g5 => q3 _ G5 H5 (g4.own hp g5) (.bl true)⟩
end
end Up

/-! text UpEnd -/
set_option Elab.async false
set_option linter.all false
set_option maxRecDepth 100000
set_option maxHeartbeats 0
/-! the end: the defs behind the top, the contracts chained, the law -/
namespace Up
open PySem PySem.Spec PyProof.Rows L2 UpS
section
variable {P : Program} {w : World} {K : PySem.W.Frag} {h : Heap} {mg : Str → Option Value} {base : Heap}
theorem df_of {x : Str} {st : Stmt} {ps : List Str} {f : Addr} {fd : FuncData} (F : FunD K x x (defArgs st) (defBody st) (defScope st) [] [] f fd)
    (hb : ∀ (kV doc pm : Value) (an : Option Addr) (cdv ct : Value) (us : List Value), us.length = ps.length → bindArgs (PySem.W.fnOf x x (defArgs st) (defBody st) (defScope st) .none kV doc pm an cdv ct) ⟨us, []⟩ = pure (ps.zip us)) (hm : mg x = some (.ref f)) : Df K mg x st ps := by
  refine ⟨f, fd, ?_, F.bindsN hb, hm⟩
  obtain ⟨oc, od, dV, kV, doc, pm, an, cdv, ct, osl, e, lk, hcd, hD, _⟩ := F.ex
  rcases hD with ⟨_, e2⟩ | ⟨z, _⟩
  · exact ⟨⟨oc, od, kV, doc, pm, an, cdv, ct, osl, by rw [e, e2], lk, hcd⟩, F.kp⟩
  · exact absurd rfl z
theorem df_set_of (X : K.In h) (G : h.Ns mainGlobals mg) (c : He.SaysD fa fn K) : Df K mg "set_of" s_set_of p_set_of := by
  obtain ⟨fd, F⟩ := c.def_ 0 (d := d_set_of) rfl
  exact df_of F (fun _ _ _ _ _ _ us hl => match us, hl with | [_], _ => rfl) (He.glo_ok X G (c.fact 0 (f := .glo "set_of") rfl))
theorem df_tupled (X : K.In h) (G : h.Ns mainGlobals mg) (c : He.SaysD fa fn K) : Df K mg "tupled" s_tupled p_tupled := by
  obtain ⟨fd, F⟩ := c.def_ 1 (d := d_tupled) rfl
  exact df_of F (fun _ _ _ _ _ _ us hl => match us, hl with | [_], _ => rfl) (He.glo_ok X G (c.fact 1 (f := .glo "tupled") rfl))
theorem df_units (X : K.In h) (G : h.Ns mainGlobals mg) (c : He.SaysD fa fn K) : Df K mg "units" s_units p_units := by
  obtain ⟨fd, F⟩ := c.def_ 2 (d := d_units) rfl
  exact df_of F (fun _ _ _ _ _ _ us hl => match us, hl with | [_], _ => rfl) (He.glo_ok X G (c.fact 2 (f := .glo "units") rfl))
theorem df_check_units (X : K.In h) (G : h.Ns mainGlobals mg) (c : He.SaysD fa fn K) : Df K mg "check_units" s_check_units p_check_units := by
  obtain ⟨fd, F⟩ := c.def_ 3 (d := d_check_units) rfl
  exact df_of F (fun _ _ _ _ _ _ us hl => match us, hl with | [_, _], _ => rfl) (He.glo_ok X G (c.fact 3 (f := .glo "check_units") rfl))
theorem df_table_of (X : K.In h) (G : h.Ns mainGlobals mg) (c : He.SaysD fa fn K) : Df K mg "table_of" s_table_of p_table_of := by
  obtain ⟨fd, F⟩ := c.def_ 4 (d := d_table_of) rfl
  exact df_of F (fun _ _ _ _ _ _ us hl => match us, hl with | [_], _ => rfl) (He.glo_ok X G (c.fact 4 (f := .glo "table_of") rfl))
theorem df_lets (X : K.In h) (G : h.Ns mainGlobals mg) (c : He.SaysD fa fn K) : Df K mg "lets" s_lets p_lets := by
  obtain ⟨fd, F⟩ := c.def_ 5 (d := d_lets) rfl
  exact df_of F (fun _ _ _ _ _ _ us hl => match us, hl with | [_, _, _], _ => rfl) (He.glo_ok X G (c.fact 5 (f := .glo "lets") rfl))
theorem df_row_within (X : K.In h) (G : h.Ns mainGlobals mg) (c : He.SaysD fa fn K) : Df K mg "row_within" s_row_within p_row_within := by
  obtain ⟨fd, F⟩ := c.def_ 6 (d := d_row_within) rfl
  exact df_of F (fun _ _ _ _ _ _ us hl => match us, hl with | [_, _], _ => rfl) (He.glo_ok X G (c.fact 6 (f := .glo "row_within") rfl))
theorem df_greatest_within (X : K.In h) (G : h.Ns mainGlobals mg) (c : He.SaysD fa fn K) : Df K mg "greatest_within" s_greatest_within p_greatest_within := by
  obtain ⟨fd, F⟩ := c.def_ 7 (d := d_greatest_within) rfl
  exact df_of F (fun _ _ _ _ _ _ us hl => match us, hl with | [_, _], _ => rfl) (He.glo_ok X G (c.fact 7 (f := .glo "greatest_within") rfl))
theorem df_whole (X : K.In h) (G : h.Ns mainGlobals mg) (c : He.SaysD fa fn K) : Df K mg "whole" s_whole p_whole := by
  obtain ⟨fd, F⟩ := c.def_ 8 (d := d_whole) rfl
  exact df_of F (fun _ _ _ _ _ _ us hl => match us, hl with | [_], _ => rfl) (He.glo_ok X G (c.fact 8 (f := .glo "whole") rfl))
theorem df_standings_of (X : K.In h) (G : h.Ns mainGlobals mg) (c : He.SaysD fa fn K) : Df K mg "standings_of" s_standings_of p_standings_of := by
  obtain ⟨fd, F⟩ := c.def_ 9 (d := d_standings_of) rfl
  exact df_of F (fun _ _ _ _ _ _ us hl => match us, hl with | [_], _ => rfl) (He.glo_ok X G (c.fact 9 (f := .glo "standings_of") rfl))
theorem df_without (X : K.In h) (G : h.Ns mainGlobals mg) (c : He.SaysD fa fn K) : Df K mg "without" s_without p_without := by
  obtain ⟨fd, F⟩ := c.def_ 10 (d := d_without) rfl
  exact df_of F (fun _ _ _ _ _ _ us hl => match us, hl with | [_, _], _ => rfl) (He.glo_ok X G (c.fact 10 (f := .glo "without") rfl))
theorem df_ends_in (X : K.In h) (G : h.Ns mainGlobals mg) (c : He.SaysD fa fn K) : Df K mg "ends_in" s_ends_in p_ends_in := by
  obtain ⟨fd, F⟩ := c.def_ 11 (d := d_ends_in) rfl
  exact df_of F (fun _ _ _ _ _ _ us hl => match us, hl with | [_, _], _ => rfl) (He.glo_ok X G (c.fact 11 (f := .glo "ends_in") rfl))
theorem df_ends_of_paths (X : K.In h) (G : h.Ns mainGlobals mg) (c : He.SaysD fa fn K) : Df K mg "ends_of_paths" s_ends_of_paths p_ends_of_paths := by
  obtain ⟨fd, F⟩ := c.def_ 12 (d := d_ends_of_paths) rfl
  exact df_of F (fun _ _ _ _ _ _ us hl => match us, hl with | [_], _ => rfl) (He.glo_ok X G (c.fact 12 (f := .glo "ends_of_paths") rfl))
theorem df_all_paths (X : K.In h) (G : h.Ns mainGlobals mg) (c : He.SaysD fa fn K) : Df K mg "all_paths" s_all_paths p_all_paths := by
  obtain ⟨fd, F⟩ := c.def_ 13 (d := d_all_paths) rfl
  exact df_of F (fun _ _ _ _ _ _ us hl => match us, hl with | [_], _ => rfl) (He.glo_ok X G (c.fact 13 (f := .glo "all_paths") rfl))
theorem df_is_within (X : K.In h) (G : h.Ns mainGlobals mg) (c : He.SaysD fa fn K) : Df K mg "is_within" s_is_within p_is_within := by
  obtain ⟨fd, F⟩ := c.def_ 14 (d := d_is_within) rfl
  exact df_of F (fun _ _ _ _ _ _ us hl => match us, hl with | [_, _], _ => rfl) (He.glo_ok X G (c.fact 14 (f := .glo "is_within") rfl))
theorem df_grown (X : K.In h) (G : h.Ns mainGlobals mg) (c : He.SaysD fa fn K) : Df K mg "grown" s_grown p_grown := by
  obtain ⟨fd, F⟩ := c.def_ 15 (d := d_grown) rfl
  exact df_of F (fun _ _ _ _ _ _ us hl => match us, hl with | [_, _, _, _], _ => rfl) (He.glo_ok X G (c.fact 15 (f := .glo "grown") rfl))
theorem df_behind_of (X : K.In h) (G : h.Ns mainGlobals mg) (c : He.SaysD fa fn K) : Df K mg "behind_of" s_behind_of p_behind_of := by
  obtain ⟨fd, F⟩ := c.def_ 16 (d := d_behind_of) rfl
  exact df_of F (fun _ _ _ _ _ _ us hl => match us, hl with | [_], _ => rfl) (He.glo_ok X G (c.fact 16 (f := .glo "behind_of") rfl))
theorem df_put_behind (X : K.In h) (G : h.Ns mainGlobals mg) (c : He.SaysD fa fn K) : Df K mg "put_behind" s_put_behind p_put_behind := by
  obtain ⟨fd, F⟩ := c.def_ 17 (d := d_put_behind) rfl
  exact df_of F (fun _ _ _ _ _ _ us hl => match us, hl with | [_, _, _, _], _ => rfl) (He.glo_ok X G (c.fact 17 (f := .glo "put_behind") rfl))
theorem df_matched (X : K.In h) (G : h.Ns mainGlobals mg) (c : He.SaysD fa fn K) : Df K mg "matched" s_matched p_matched := by
  obtain ⟨fd, F⟩ := c.def_ 18 (d := d_matched) rfl
  exact df_of F (fun _ _ _ _ _ _ us hl => match us, hl with | [_], _ => rfl) (He.glo_ok X G (c.fact 18 (f := .glo "matched") rfl))
theorem df_path_chains (X : K.In h) (G : h.Ns mainGlobals mg) (c : He.SaysD fa fn K) : Df K mg "path_chains" s_path_chains p_path_chains := by
  obtain ⟨fd, F⟩ := c.def_ 19 (d := d_path_chains) rfl
  exact df_of F (fun _ _ _ _ _ _ us hl => match us, hl with | [_], _ => rfl) (He.glo_ok X G (c.fact 19 (f := .glo "path_chains") rfl))
theorem df_width (X : K.In h) (G : h.Ns mainGlobals mg) (c : He.SaysD fa fn K) : Df K mg "width" s_width p_width := by
  obtain ⟨fd, F⟩ := c.def_ 20 (d := d_width) rfl
  exact df_of F (fun _ _ _ _ _ _ us hl => match us, hl with | [_], _ => rfl) (He.glo_ok X G (c.fact 20 (f := .glo "width") rfl))
theorem df_list_through (X : K.In h) (G : h.Ns mainGlobals mg) (c : He.SaysD fa fn K) : Df K mg "list_through" s_list_through p_list_through := by
  obtain ⟨fd, F⟩ := c.def_ 21 (d := d_list_through) rfl
  exact df_of F (fun _ _ _ _ _ _ us hl => match us, hl with | [_, _], _ => rfl) (He.glo_ok X G (c.fact 21 (f := .glo "list_through") rfl))
theorem df_fewest_lists (X : K.In h) (G : h.Ns mainGlobals mg) (c : He.SaysD fa fn K) : Df K mg "fewest_lists" s_fewest_lists p_fewest_lists := by
  obtain ⟨fd, F⟩ := c.def_ 22 (d := d_fewest_lists) rfl
  exact df_of F (fun _ _ _ _ _ _ us hl => match us, hl with | [_], _ => rfl) (He.glo_ok X G (c.fact 22 (f := .glo "fewest_lists") rfl))
theorem df_Lbox (X : K.In h) (G : h.Ns mainGlobals mg) (c : He.SaysD fa fn K) : Df K mg "_law_box" s_Lbox p_Lbox := by
  obtain ⟨fd, F⟩ := c.def_ 23 (d := d_Lbox) rfl
  exact df_of F (fun _ _ _ _ _ _ us hl => match us, hl with | [_, _], _ => rfl) (He.glo_ok X G (c.fact 23 (f := .glo "_law_box") rfl))
theorem df_Lcells (X : K.In h) (G : h.Ns mainGlobals mg) (c : He.SaysD fa fn K) : Df K mg "_law_cells" s_Lcells p_Lcells := by
  obtain ⟨fd, F⟩ := c.def_ 24 (d := d_Lcells) rfl
  exact df_of F (fun _ _ _ _ _ _ us hl => match us, hl with | [_, _], _ => rfl) (He.glo_ok X G (c.fact 24 (f := .glo "_law_cells") rfl))
theorem df_Lmixed (X : K.In h) (G : h.Ns mainGlobals mg) (c : He.SaysD fa fn K) : Df K mg "_law_mixed" s_Lmixed p_Lmixed := by
  obtain ⟨fd, F⟩ := c.def_ 25 (d := d_Lmixed) rfl
  exact df_of F (fun _ _ _ _ _ _ us hl => match us, hl with | [_, _], _ => rfl) (He.glo_ok X G (c.fact 25 (f := .glo "_law_mixed") rfl))
theorem df_Ltake (X : K.In h) (G : h.Ns mainGlobals mg) (c : He.SaysD fa fn K) : Df K mg "_law_take" s_Ltake p_Ltake := by
  obtain ⟨fd, F⟩ := c.def_ 26 (d := d_Ltake) rfl
  exact df_of F (fun _ _ _ _ _ _ us hl => match us, hl with | [_, _], _ => rfl) (He.glo_ok X G (c.fact 26 (f := .glo "_law_take") rfl))
theorem df_Lsame (X : K.In h) (G : h.Ns mainGlobals mg) (c : He.SaysD fa fn K) : Df K mg "_law_same" s_Lsame p_Lsame := by
  obtain ⟨fd, F⟩ := c.def_ 27 (d := d_Lsame) rfl
  exact df_of F (fun _ _ _ _ _ _ us hl => match us, hl with | [_, _], _ => rfl) (He.glo_ok X G (c.fact 27 (f := .glo "_law_same") rfl))
theorem df_Llists (X : K.In h) (G : h.Ns mainGlobals mg) (c : He.SaysD fa fn K) : Df K mg "_law_lists" s_Llists p_Llists := by
  obtain ⟨fd, F⟩ := c.def_ 28 (d := d_Llists) rfl
  exact df_of F (fun _ _ _ _ _ _ us hl => match us, hl with | [_], _ => rfl) (He.glo_ok X G (c.fact 28 (f := .glo "_law_lists") rfl))
theorem df_Lpick (X : K.In h) (G : h.Ns mainGlobals mg) (c : He.SaysD fa fn K) : Df K mg "_law_pick" s_Lpick p_Lpick := by
  obtain ⟨fd, F⟩ := c.def_ 29 (d := d_Lpick) rfl
  exact df_of F (fun _ _ _ _ _ _ us hl => match us, hl with | [_, _, _], _ => rfl) (He.glo_ok X G (c.fact 29 (f := .glo "_law_pick") rfl))
theorem df_Llines (X : K.In h) (G : h.Ns mainGlobals mg) (c : He.SaysD fa fn K) : Df K mg "_law_lines" s_Llines p_Llines := by
  obtain ⟨fd, F⟩ := c.def_ 30 (d := d_Llines) rfl
  exact df_of F (fun _ _ _ _ _ _ us hl => match us, hl with | [_], _ => rfl) (He.glo_ok X G (c.fact 30 (f := .glo "_law_lines") rfl))
theorem df_Lcome (X : K.In h) (G : h.Ns mainGlobals mg) (c : He.SaysD fa fn K) : Df K mg "_law_come" s_Lcome p_Lcome := by
  obtain ⟨fd, F⟩ := c.def_ 31 (d := d_Lcome) rfl
  exact df_of F (fun _ _ _ _ _ _ us hl => match us, hl with | [_, _], _ => rfl) (He.glo_ok X G (c.fact 31 (f := .glo "_law_come") rfl))
theorem df_Lstands (X : K.In h) (G : h.Ns mainGlobals mg) (c : He.SaysD fa fn K) : Df K mg "_law_stands" s_Lstands p_Lstands := by
  obtain ⟨fd, F⟩ := c.def_ 32 (d := d_Lstands) rfl
  exact df_of F (fun _ _ _ _ _ _ us hl => match us, hl with | [_], _ => rfl) (He.glo_ok X G (c.fact 32 (f := .glo "_law_stands") rfl))
theorem df_Lorders (X : K.In h) (G : h.Ns mainGlobals mg) (c : He.SaysD fa fn K) : Df K mg "_law_orders" s_Lorders p_Lorders := by
  obtain ⟨fd, F⟩ := c.def_ 33 (d := d_Lorders) rfl
  exact df_of F (fun _ _ _ _ _ _ us hl => match us, hl with | [_], _ => rfl) (He.glo_ok X G (c.fact 33 (f := .glo "_law_orders") rfl))
theorem df_Linside (X : K.In h) (G : h.Ns mainGlobals mg) (c : He.SaysD fa fn K) : Df K mg "_law_inside" s_Linside p_Linside := by
  obtain ⟨fd, F⟩ := c.def_ 34 (d := d_Linside) rfl
  exact df_of F (fun _ _ _ _ _ _ us hl => match us, hl with | [_, _], _ => rfl) (He.glo_ok X G (c.fact 34 (f := .glo "_law_inside") rfl))
theorem df_Lbook (X : K.In h) (G : h.Ns mainGlobals mg) (c : He.SaysD fa fn K) : Df K mg "_law_book" s_Lbook p_Lbook := by
  obtain ⟨fd, F⟩ := c.def_ 35 (d := d_Lbook) rfl
  exact df_of F (fun _ _ _ _ _ _ us hl => match us, hl with | [_, _], _ => rfl) (He.glo_ok X G (c.fact 35 (f := .glo "_law_book") rfl))
theorem df_Llower (X : K.In h) (G : h.Ns mainGlobals mg) (c : He.SaysD fa fn K) : Df K mg "_law_lower" s_Llower p_Llower := by
  obtain ⟨fd, F⟩ := c.def_ 36 (d := d_Llower) rfl
  exact df_of F (fun _ _ _ _ _ _ us hl => match us, hl with | [_], _ => rfl) (He.glo_ok X G (c.fact 36 (f := .glo "_law_lower") rfl))
theorem df_Lwords (X : K.In h) (G : h.Ns mainGlobals mg) (c : He.SaysD fa fn K) : Df K mg "_law_words" s_Lwords p_Lwords := by
  obtain ⟨fd, F⟩ := c.def_ 37 (d := d_Lwords) rfl
  exact df_of F (fun _ _ _ _ _ _ us hl => match us, hl with | [_], _ => rfl) (He.glo_ok X G (c.fact 37 (f := .glo "_law_words") rfl))
theorem df_Lread (X : K.In h) (G : h.Ns mainGlobals mg) (c : He.SaysD fa fn K) : Df K mg "_law_read" s_Lread p_Lread := by
  obtain ⟨fd, F⟩ := c.def_ 38 (d := d_Lread) rfl
  exact df_of F (fun _ _ _ _ _ _ us hl => match us, hl with | [_], _ => rfl) (He.glo_ok X G (c.fact 38 (f := .glo "_law_read") rfl))
theorem df_Lserves (X : K.In h) (G : h.Ns mainGlobals mg) (c : He.SaysD fa fn K) : Df K mg "_law_serves" s_Lserves p_Lserves := by
  obtain ⟨fd, F⟩ := c.def_ 39 (d := d_Lserves) rfl
  exact df_of F (fun _ _ _ _ _ _ us hl => match us, hl with | [_, _], _ => rfl) (He.glo_ok X G (c.fact 39 (f := .glo "_law_serves") rfl))
theorem df_Lby_hand_right (X : K.In h) (G : h.Ns mainGlobals mg) (c : He.SaysD fa fn K) : Df K mg "_law_by_hand_right" s_Lby_hand_right p_Lby_hand_right := by
  obtain ⟨fd, F⟩ := c.def_ 40 (d := d_Lby_hand_right) rfl
  exact df_of F (fun _ _ _ _ _ _ us hl => match us, hl with | [], _ => rfl) (He.glo_ok X G (c.fact 40 (f := .glo "_law_by_hand_right") rfl))
theorem df_Lpairs_right (X : K.In h) (G : h.Ns mainGlobals mg) (c : He.SaysD fa fn K) : Df K mg "_law_pairs_right" s_Lpairs_right p_Lpairs_right := by
  obtain ⟨fd, F⟩ := c.def_ 41 (d := d_Lpairs_right) rfl
  exact df_of F (fun _ _ _ _ _ _ us hl => match us, hl with | [], _ => rfl) (He.glo_ok X G (c.fact 41 (f := .glo "_law_pairs_right") rfl))
theorem df_Lright (X : K.In h) (G : h.Ns mainGlobals mg) (c : He.SaysD fa fn K) : Df K mg "_law_right" s_Lright p_Lright := by
  obtain ⟨fd, F⟩ := c.def_ 42 (d := d_Lright) rfl
  exact df_of F (fun _ _ _ _ _ _ us hl => match us, hl with | [_], _ => rfl) (He.glo_ok X G (c.fact 42 (f := .glo "_law_right") rfl))
theorem df_law (X : K.In h) (G : h.Ns mainGlobals mg) (c : He.SaysD fa fn K) : Df K mg "law" s_law p_law := by
  obtain ⟨fd, F⟩ := c.def_ 43 (d := d_law) rfl
  exact df_of F (fun _ _ _ _ _ _ us hl => match us, hl with | [_], _ => rfl) (He.glo_ok X G (c.fact 43 (f := .glo "law") rfl))
theorem mo_ok (X : K.In h) (G : h.Ns mainGlobals mg) (c : He.SaysD fa fn K) : Mo mg := ⟨He.free_ok X G (c.fact 44 (f := .free "abs") rfl), He.free_ok X G (c.fact 45 (f := .free "all") rfl), He.free_ok X G (c.fact 46 (f := .free "any") rfl), He.free_ok X G (c.fact 47 (f := .free "bool") rfl), He.free_ok X G (c.fact 48 (f := .free "dict") rfl), He.free_ok X G (c.fact 49 (f := .free "enumerate") rfl), He.free_ok X G (c.fact 50 (f := .free "int") rfl), He.free_ok X G (c.fact 51 (f := .free "isinstance") rfl), He.free_ok X G (c.fact 52 (f := .free "len") rfl), He.free_ok X G (c.fact 53 (f := .free "list") rfl), He.free_ok X G (c.fact 54 (f := .free "range") rfl), He.free_ok X G (c.fact 55 (f := .free "set") rfl), He.free_ok X G (c.fact 56 (f := .free "sorted") rfl), He.free_ok X G (c.fact 57 (f := .free "str") rfl), He.free_ok X G (c.fact 58 (f := .free "sum") rfl), He.free_ok X G (c.fact 59 (f := .free "tuple") rfl), He.free_ok X G (c.fact 60 (f := .free "zip") rfl)⟩
theorem law_ok (X : K.In h) (G : h.Ns mainGlobals mg) (c : He.SaysD fa fn K) : At P w K mg base "law" s_law p_law 47 (spLaw K) := by
  have M : Mo mg := mo_ok X G c
  have a_tupled_3 := ok_tupled (P := P) (w := w) (base := base) M (df_tupled X G c) 3
  have a_table_of := ok_table_of (P := P) (w := w) (base := base) M (df_table_of X G c) a_tupled_3
  have a_lets := ok_lets (P := P) (w := w) (base := base) M (df_lets X G c) 
  have a_set_of := ok_set_of (P := P) (w := w) (base := base) M (df_set_of X G c) 
  have a_standings_of := ok_standings_of (P := P) (w := w) (base := base) M (df_standings_of X G c) a_table_of a_lets a_set_of
  have a_without := ok_without (P := P) (w := w) (base := base) M (df_without X G c) 
  have a_ends_in := ok_ends_in (P := P) (w := w) (base := base) M (df_ends_in X G c) a_without
  have a_ends_of_paths := ok_ends_of_paths (P := P) (w := w) (base := base) M (df_ends_of_paths X G c) a_standings_of a_ends_in
  have a_all_paths := ok_all_paths (P := P) (w := w) (base := base) M (df_all_paths X G c) a_ends_of_paths
  have a_put_behind_41 := ok_put_behind (P := P) (w := w) (base := base) M (df_put_behind X G c) 41
  have a_matched := ok_matched (P := P) (w := w) (base := base) M (df_matched X G c) a_put_behind_41
  have a_is_within := ok_is_within (P := P) (w := w) (base := base) M (df_is_within X G c) 
  have a_behind_of := ok_behind_of (P := P) (w := w) (base := base) M (df_behind_of X G c) a_is_within
  have a_path_chains := ok_path_chains (P := P) (w := w) (base := base) M (df_path_chains X G c) a_all_paths a_matched a_behind_of
  have a_units := ok_units (P := P) (w := w) (base := base) M (df_units X G c) 
  have a_check_units := ok_check_units (P := P) (w := w) (base := base) M (df_check_units X G c) a_units
  have a_row_within := ok_row_within (P := P) (w := w) (base := base) M (df_row_within X G c) a_table_of a_lets
  have a_greatest_within := ok_greatest_within (P := P) (w := w) (base := base) M (df_greatest_within X G c) a_check_units a_set_of a_row_within
  have a_whole := ok_whole (P := P) (w := w) (base := base) M (df_whole X G c) a_greatest_within a_units
  have a_grown := ok_grown (P := P) (w := w) (base := base) M (df_grown X G c) a_is_within
  have a_list_through := ok_list_through (P := P) (w := w) (base := base) M (df_list_through X G c) a_whole a_tupled_3 a_is_within a_grown
  have a_fewest_lists := ok_fewest_lists (P := P) (w := w) (base := base) M (df_fewest_lists X G c) a_path_chains a_list_through
  have a_Lwords := ok_Lwords (P := P) (w := w) (base := base) M (df_Lwords X G c) 
  have a_Lread := ok_Lread (P := P) (w := w) (base := base) M (df_Lread X G c) 
  have a_Lcome := ok_Lcome (P := P) (w := w) (base := base) M (df_Lcome X G c) 
  have a_Lstands := ok_Lstands (P := P) (w := w) (base := base) M (df_Lstands X G c) a_Lcome
  have a_Lserves := ok_Lserves (P := P) (w := w) (base := base) M (df_Lserves X G c) a_Lread a_Lstands
  have a_Lsame_4 := ok_Lsame (P := P) (w := w) (base := base) M (df_Lsame X G c) 4
  have a_Llists_5 := ok_Llists (P := P) (w := w) (base := base) M (df_Llists X G c) 5
  have a_Llines := ok_Llines (P := P) (w := w) (base := base) M (df_Llines X G c) 
  have a_Linside := ok_Linside (P := P) (w := w) (base := base) M (df_Linside X G c) 
  have a_Llower := ok_Llower (P := P) (w := w) (base := base) M (df_Llower X G c) a_Linside
  have a_Lpairs_right := ok_Lpairs_right (P := P) (w := w) (base := base) M (df_Lpairs_right X G c) a_fewest_lists a_Llines a_Lserves a_Llower a_Lread
  have a_Lby_hand_right := ok_Lby_hand_right (P := P) (w := w) (base := base) M (df_Lby_hand_right X G c) a_fewest_lists a_Lwords a_Lserves a_Lsame_4 a_Llists_5 a_Lpairs_right
  have a_Lcells := ok_Lcells (P := P) (w := w) (base := base) M (df_Lcells X G c) 
  have a_Lbox := ok_Lbox (P := P) (w := w) (base := base) M (df_Lbox X G c) 
  have a_Ltake := ok_Ltake (P := P) (w := w) (base := base) M (df_Ltake X G c) 
  have a_Lmixed := ok_Lmixed (P := P) (w := w) (base := base) M (df_Lmixed X G c) a_Ltake
  have a_Lpick := ok_Lpick (P := P) (w := w) (base := base) M (df_Lpick X G c) a_Lmixed
  have a_Lbook := ok_Lbook (P := P) (w := w) (base := base) M (df_Lbook X G c) a_Ltake a_Lpick
  have a_width := ok_width (P := P) (w := w) (base := base) M (df_width X G c) a_path_chains
  have a_Lorders := ok_Lorders (P := P) (w := w) (base := base) M (df_Lorders X G c) a_Lcome
  have a_Lsame_3 := ok_Lsame (P := P) (w := w) (base := base) M (df_Lsame X G c) 3
  have a_Lright := ok_Lright (P := P) (w := w) (base := base) M (df_Lright X G c) a_Lbook a_fewest_lists a_width a_Lorders a_Lserves a_Lsame_3 a_Llists_5 a_Lstands a_Lread
  exact ok_law M (df_law X G c) a_Lby_hand_right a_Lcells a_Lbox a_Lright
theorem fn_ok_of {x : Str} {st : Stmt} {ps : List Str} {k : Nat} {sp : Sp} {f : Addr} (h : At P w K mg base x st ps k sp) (hf : mg x = some (.ref f)) : ∃ fd, Fun K x x st f fd ∧ FnOk P w K mg base CX0 k f fd ps sp := by
  obtain ⟨f', fd, F, _, g, G⟩ := h
  rw [g] at hf
  cases hf
  exact ⟨fd, F, G⟩
theorem facts {f : Addr} (X : K.In h) (G : h.Ns mainGlobals mg) (hfa : mg ("law" : Str) = some (.ref f)) (c : He.SaysD fa fn K) :
    ∃ fd : FuncData, (∀ (s : Shared) (v : Value), BindsTo s fd ⟨[v], []⟩ [("_law_script", v)]) ∧ ∀ base : Heap, K.In base → base.Ns mainGlobals mg → FnOk P w K mg base CX0 47 f fd ["_law_script"] (spLaw K) := by
  obtain ⟨fd, F⟩ := c.def_ 43 (d := d_law) rfl
  have e := hfa.symm.trans (He.glo_ok X G (c.fact 43 (f := .glo "law") rfl))
  cases e
  have b := FunD.bindsA (ps := ["_law_script"]) F fun _ _ _ _ _ _ us hl => match us, hl with | [_], _ => rfl
  refine ⟨fd, fun s v => b s [v] rfl, fun base _ _ => ?_⟩
  obtain ⟨f', fd', F', _, g', G'⟩ := law_ok (P := P) (w := w) (base := base) X G c
  rw [hfa] at g'
  cases g'
  obtain ⟨_, _, _, _, _, _, _, _, _, e1, l1, _⟩ := F'.ex
  obtain ⟨_, _, _, _, _, _, _, _, _, _, e2, l2, _⟩ := F.ex
  have l3 := l1.symm.trans l2
  have e3 : fd' = fd := by injection l3 with l4; injection l4 with _ _ l5; injection l5
  rw [← e3]
  exact G'
end
end Up
open PySem PySem.W PySem.Calls PyProof.Rows
theorem PySem.Challenge.cw_upbyany_k45_whole_fewest_lists_holds : PySem.Challenge.rw_upbyany_k45_whole_fewest_lists.Holds := by
  w_on; o_law
  refine HandSHeadRun.head_any (r := OpenLaw.row PySem.Challenge.rw_upbyany_k45_whole_fewest_lists) (q := view (OpenLaw.row PySem.Challenge.rw_upbyany_k45_whole_fewest_lists).prog [51]) (H := Up.hk) (ob := Up.ob) (M := 2000) (loose := Up.lo) (d := HandSHeadRun.topDef (OpenLaw.row PySem.Challenge.rw_upbyany_k45_whole_fewest_lists).prog 51) (kwd := []) Up.ob_eq
    (by kernel_rfl) (fun s => by kernel_rfl) Up.run (by kernel_rfl) (by kernel_rfl) (by kernel_rfl) (by rfl) (by first | assumption | decide +kernel) (by decide +kernel) ⟨rfl, rfl, rfl, rfl, rfl, by decide +kernel⟩ ?hw ?hc
  case hw => w_witness2
  case hc =>
    refine L2.walk_ofE (l := PySem.Challenge.rw_upbyany_k45_whole_fewest_lists) (n := 63) (k := 47) (x := "_law_script") (CX := L2.CX0) rfl (by decide) (by kernel_rfl) ⟨rfl, by decide, by decide⟩ ?F (fun _ _ _ _ z => z)
    intro w mg fa h Y G hmg0
    obtain ⟨K, KX, c⟩ := Y
    have hmg : mg ("law" : PySem.Str) = some (.ref fa) := by
      have e : (HandSHeadRun.topDef (OpenLaw.row PySem.Challenge.rw_upbyany_k45_whole_fewest_lists).prog 51).name = ("law" : PySem.Str) := by kernel_rfl
      rw [← e]
      exact hmg0
    obtain ⟨fd, hb, hF⟩ := Up.facts (P := (PySem.Challenge.rw_upbyany_k45_whole_fewest_lists).prog) (w := w) KX G hmg c
    refine ⟨K, fd, Up.spLaw K, KX, hb, fun H a ns hl _ hS => ?_, hF⟩
    refine ⟨rfl, .ref a, a, ns, H, rfl, rfl, fun _ _ z => z, fun H' e => ?_, Nat.le_trans hl (by decide), fun _ _ _ => rfl⟩
    rcases hS with (z | ⟨o, z⟩) | z
    · exact .inl (.inl (e _ _ z))
    · exact .inl (.inr ⟨o, e _ _ z⟩)
    · exact .inr z
