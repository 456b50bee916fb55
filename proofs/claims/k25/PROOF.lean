import PyProof.Rows.All
import Wide.All
import OpenK.AllK
import Wide.FinOn
import HandS.ForMost
import HandS.Walk
import HandS.Star
import HandS.Zip
import HandS.TupAny
import HandS.TupMul
import HandS.Style
import HandS.IsInst
import HandS.DictComp
import HandS.Defaults
import HandS.WordsDict
import KE.GoesMore
import PyProof.WalkInts
import KE.KDictPairs
import HandS.SortOrd
import HandS.NamedTupSort
import KE.KDictCopyH
import KE.KDictSum
import KE.SortKeyHeap
import HandS.Lambda
import HandS.EndTab
import HandS.HeadWalk
import PyProof.ReprRoads
import HandS.HeadHook4
import HandS.Head0
import HandS.Head1
import HandS.Head2
import HandS.HeadEnd
import HandS.HeadHook1
import HandS.HeadHook2
import HandS.HeadHook3
import KE.KStateDown
import PySem.Challenge.RW_onerising_k25_whole_terms
set_option Elab.async false
set_option linter.all false
set_option maxRecDepth 100000
set_option maxHeartbeats 0
namespace Qp
open PySem PySem.Spec PyProof.Rows L2
def top (i : Nat) : Stmt := PySem.Challenge.pw_onerising_k25_whole_terms.main.body.getD i (.Pass ⟨0, 0, 0, 0⟩)
def d_is_integer : He.DefD := ⟨("is_integer", none), "is_integer", "is_integer", defArgs (top 5), defBody (top 5), defScope (top 5), [], []⟩
def d_common : He.DefD := ⟨("common", none), "common", "common", defArgs (top 6), defBody (top 6), defScope (top 6), [], []⟩
def d_made : He.DefD := ⟨("made", none), "made", "made", defArgs (top 7), defBody (top 7), defScope (top 7), [], []⟩
def d_is_under : He.DefD := ⟨("is_under", none), "is_under", "is_under", defArgs (top 8), defBody (top 8), defScope (top 8), [], []⟩
def d_is_between : He.DefD := ⟨("is_between", none), "is_between", "is_between", defArgs (top 14), defBody (top 14), defScope (top 14), [], []⟩
def d_are_rising : He.DefD := ⟨("are_rising", none), "are_rising", "are_rising", defArgs (top 15), defBody (top 15), defScope (top 15), [], []⟩
def d_is_pair_below : He.DefD := ⟨("is_pair_below", none), "is_pair_below", "is_pair_below", defArgs (top 16), defBody (top 16), defScope (top 16), [], []⟩
def d_are_ties : He.DefD := ⟨("are_ties", none), "are_ties", "are_ties", defArgs (top 17), defBody (top 17), defScope (top 17), [], []⟩
def d_ups_by : He.DefD := ⟨("ups_by", none), "ups_by", "ups_by", defArgs (top 18), defBody (top 18), defScope (top 18), [], []⟩
def d_is_seen : He.DefD := ⟨("is_seen", none), "is_seen", "is_seen", defArgs (top 19), defBody (top 19), defScope (top 19), [], []⟩
def d_need_field : He.DefD := ⟨("need_field", none), "need_field", "need_field", defArgs (top 20), defBody (top 20), defScope (top 20), [], []⟩
def d_ups_in : He.DefD := ⟨("ups_in", none), "ups_in", "ups_in", defArgs (top 21), defBody (top 21), defScope (top 21), [], []⟩
def d_covers_by : He.DefD := ⟨("covers_by", none), "covers_by", "covers_by", defArgs (top 22), defBody (top 22), defScope (top 22), [], []⟩
def d_is_spot : He.DefD := ⟨("is_spot", none), "is_spot", "is_spot", defArgs (top 41), defBody (top 41), defScope (top 41), [], []⟩
def d_are_spots : He.DefD := ⟨("are_spots", none), "are_spots", "are_spots", defArgs (top 42), defBody (top 42), defScope (top 42), [], []⟩
def d_is_own_form : He.DefD := ⟨("is_own_form", none), "is_own_form", "is_own_form", defArgs (top 43), defBody (top 43), defScope (top 43), [], []⟩
def d_is_form : He.DefD := ⟨("is_form", none), "is_form", "is_form", defArgs (top 44), defBody (top 44), defScope (top 44), [], []⟩
def d_places_in : He.DefD := ⟨("places_in", none), "places_in", "places_in", defArgs (top 45), defBody (top 45), defScope (top 45), [], []⟩
def d_paths_in : He.DefD := ⟨("paths_in", none), "paths_in", "paths_in", defArgs (top 46), defBody (top 46), defScope (top 46), [], []⟩
def d_term_at : He.DefD := ⟨("term_at", none), "term_at", "term_at", defArgs (top 47), defBody (top 47), defScope (top 47), [], []⟩
def d_closed : He.DefD := ⟨("closed", none), "closed", "closed", defArgs (top 48), defBody (top 48), defScope (top 48), [], []⟩
def d_laid : He.DefD := ⟨("laid", none), "laid", "laid", defArgs (top 49), defBody (top 49), defScope (top 49), [], []⟩
def d_row_of : He.DefD := ⟨("row_of", none), "row_of", "row_of", defArgs (top 50), defBody (top 50), defScope (top 50), [], []⟩
def d_part_of : He.DefD := ⟨("part_of", none), "part_of", "part_of", defArgs (top 51), defBody (top 51), defScope (top 51), [], []⟩
def d_tied_of : He.DefD := ⟨("tied_of", none), "tied_of", "tied_of", defArgs (top 52), defBody (top 52), defScope (top 52), [], []⟩
def d_single_of : He.DefD := ⟨("single_of", none), "single_of", "single_of", defArgs (top 53), defBody (top 53), defScope (top 53), [], []⟩
def d_by_word : He.DefD := ⟨("by_word", none), "by_word", "by_word", defArgs (top 54), defBody (top 54), defScope (top 54), [], []⟩
def d_is_good : He.DefD := ⟨("is_good", none), "is_good", "is_good", defArgs (top 55), defBody (top 55), defScope (top 55), [], []⟩
def d_field_in : He.DefD := ⟨("field_in", none), "field_in", "field_in", defArgs (top 56), defBody (top 56), defScope (top 56), [], []⟩
def d_need_term : He.DefD := ⟨("need_term", none), "need_term", "need_term", defArgs (top 57), defBody (top 57), defScope (top 57), [], []⟩
def d_field_of : He.DefD := ⟨("field_of", none), "field_of", "field_of", defArgs (top 58), defBody (top 58), defScope (top 58), [], []⟩
def d_kids_of : He.DefD := ⟨("kids_of", none), "kids_of", "kids_of", defArgs (top 59), defBody (top 59), defScope (top 59), [], []⟩
def d_is_up_in : He.DefD := ⟨("is_up_in", none), "is_up_in", "is_up_in", defArgs (top 61), defBody (top 61), defScope (top 61), [], []⟩
def d_mean_in : He.DefD := ⟨("mean_in", none), "mean_in", "mean_in", defArgs (top 62), defBody (top 62), defScope (top 62), [], []⟩
def d_lots_of : He.DefD := ⟨("lots_of", none), "lots_of", "lots_of", defArgs (top 63), defBody (top 63), defScope (top 63), [], []⟩
def d_up_in : He.DefD := ⟨("up_in", none), "up_in", "up_in", defArgs (top 64), defBody (top 64), defScope (top 64), [], []⟩
def d_next_level : He.DefD := ⟨("next_level", none), "next_level", "next_level", defArgs (top 66), defBody (top 66), defScope (top 66), [], []⟩
def d_levels_in : He.DefD := ⟨("levels_in", none), "levels_in", "levels_in", defArgs (top 67), defBody (top 67), defScope (top 67), [], []⟩
def d_table_by : He.DefD := ⟨("table_by", none), "table_by", "table_by", defArgs (top 68), defBody (top 68), defScope (top 68), [], []⟩
def d_best_in : He.DefD := ⟨("best_in", none), "best_in", "best_in", defArgs (top 69), defBody (top 69), defScope (top 69), [], []⟩
def d_best_table : He.DefD := ⟨("best_table", none), "best_table", "best_table", defArgs (top 70), defBody (top 70), defScope (top 70), [], []⟩
def d__law_mixed : He.DefD := ⟨("_law_mixed", none), "_law_mixed", "_law_mixed", defArgs (top 72), defBody (top 72), defScope (top 72), [], []⟩
def d__law_begin : He.DefD := ⟨("_law_begin", none), "_law_begin", "_law_begin", defArgs (top 73), defBody (top 73), defScope (top 73), [], []⟩
def d__law_draw : He.DefD := ⟨("_law_draw", none), "_law_draw", "_law_draw", defArgs (top 74), defBody (top 74), defScope (top 74), [], []⟩
def d__law_of : He.DefD := ⟨("_law_of", none), "_law_of", "_law_of", defArgs (top 75), defBody (top 75), defScope (top 75), [], []⟩
def d__law_closed : He.DefD := ⟨("_law_closed", none), "_law_closed", "_law_closed", defArgs (top 76), defBody (top 76), defScope (top 76), [], []⟩
def d__law_checked : He.DefD := ⟨("_law_checked", none), "_law_checked", "_law_checked", defArgs (top 77), defBody (top 77), defScope (top 77), [], []⟩
def d__law_two : He.DefD := ⟨("_law_two", none), "_law_two", "_law_two", defArgs (top 78), defBody (top 78), defScope (top 78), [], []⟩
def d__law_one : He.DefD := ⟨("_law_one", none), "_law_one", "_law_one", defArgs (top 79), defBody (top 79), defScope (top 79), [], []⟩
def d__law_put : He.DefD := ⟨("_law_put", none), "_law_put", "_law_put", defArgs (top 80), defBody (top 80), defScope (top 80), [], []⟩
def d__law_term : He.DefD := ⟨("_law_term", none), "_law_term", "_law_term", defArgs (top 81), defBody (top 81), defScope (top 81), [], []⟩
def d__law_kids : He.DefD := ⟨("_law_kids", none), "_law_kids", "_law_kids", defArgs (top 82), defBody (top 82), defScope (top 82), [], []⟩
def d__law_facts_right : He.DefD := ⟨("_law_facts_right", none), "_law_facts_right", "_law_facts_right", defArgs (top 83), defBody (top 83), defScope (top 83), [], []⟩
def d__law_term_right : He.DefD := ⟨("_law_term_right", none), "_law_term_right", "_law_term_right", defArgs (top 84), defBody (top 84), defScope (top 84), [], []⟩
def d_law : He.DefD := ⟨("law", none), "law", "law", defArgs (top 85), defBody (top 85), defScope (top 85), [], []⟩
def fn : List He.DefD := [d_is_integer, d_common, d_made, d_is_under, d_is_between, d_are_rising, d_is_pair_below, d_are_ties, d_ups_by, d_is_seen, d_need_field, d_ups_in, d_covers_by, d_is_spot, d_are_spots, d_is_own_form, d_is_form, d_places_in, d_paths_in, d_term_at, d_closed, d_laid, d_row_of, d_part_of, d_tied_of, d_single_of, d_by_word, d_is_good, d_field_in, d_need_term, d_field_of, d_kids_of, d_is_up_in, d_mean_in, d_lots_of, d_up_in, d_next_level, d_levels_in, d_table_by, d_best_in, d_best_table, d__law_mixed, d__law_begin, d__law_draw, d__law_of, d__law_closed, d__law_checked, d__law_two, d__law_one, d__law_put, d__law_term, d__law_kids, d__law_facts_right, d__law_term_right, d_law]
def fa0 : List He.Fa := [.glo "is_integer", .glo "common", .glo "made", .glo "is_under", .glo "is_between", .glo "are_rising", .glo "is_pair_below", .glo "are_ties", .glo "ups_by", .glo "is_seen", .glo "need_field", .glo "ups_in", .glo "covers_by", .glo "is_spot", .glo "are_spots", .glo "is_own_form", .glo "is_form", .glo "places_in", .glo "paths_in", .glo "term_at", .glo "closed", .glo "laid", .glo "row_of", .glo "part_of", .glo "tied_of", .glo "single_of", .glo "by_word", .glo "is_good", .glo "field_in", .glo "need_term"]
def fa1 : List He.Fa := [.glo "field_of", .glo "kids_of", .glo "is_up_in", .glo "mean_in", .glo "lots_of", .glo "up_in", .glo "next_level", .glo "levels_in", .glo "table_by", .glo "best_in", .glo "best_table", .glo "_law_mixed", .glo "_law_begin", .glo "_law_draw", .glo "_law_of", .glo "_law_closed", .glo "_law_checked", .glo "_law_two", .glo "_law_one", .glo "_law_put", .glo "_law_term", .glo "_law_kids", .glo "_law_facts_right", .glo "_law_term_right", .glo "law", .free "isinstance", .free "int", .free "bool", .free "tuple", .free "str"]
def fa2 : List He.Fa := [.free "abs", .free "all", .free "any", .free "zip", .free "len", .free "range", .free "sorted", .free "list", .free "enumerate", .free "max", .free "min", .free "sum", .free "dict", .free "repr", .int "MOST_THINGS" 10, .int "MOST_TIES" 45, .int "MOST_WORTH" 1000, .int "MOST_WEIGHT" 1000, .int "MOST_WORDS" 20, .int "MOST_DEEP" 8, .int "MOST_MOVE" 2000, .int "MOST_TIMES" 1000, .str "THING" "thing", .str "NONE" "none", .str "BESIDE" "beside", .str "BELOW" "below", .str "ROW" "row", .str "TURNED" "turned", .str "MOVED" "moved", .str "TIMES" "times"]
def fa3 : List He.Fa := [.str "TIED" "tied", .str "ONLY" "only", .glo "LEAVES", .glo "DOUBLE", .glo "LENGTHS"]
def fa : List He.Fa := fa0 ++ fa1 ++ fa2 ++ fa3
def nm0 : List Str := ["RiseError", "BadField", "BadTerm", "is_integer", "common", "made", "is_under", "MOST_THINGS", "MOST_TIES", "MOST_WORTH", "MOST_WEIGHT", "is_between", "are_rising", "is_pair_below", "are_ties", "ups_by", "is_seen", "need_field", "ups_in", "covers_by", "MOST_WORDS", "MOST_DEEP", "MOST_MOVE", "MOST_TIMES", "THING", "NONE", "BESIDE", "BELOW", "ROW", "TURNED"]
def nm1 : List Str := ["MOVED", "TIMES", "TIED", "ONLY", "LENGTHS", "LEAVES", "DOUBLE", "is_spot", "are_spots", "is_own_form", "is_form", "places_in", "paths_in", "term_at", "closed", "laid", "row_of", "part_of", "tied_of", "single_of", "by_word", "is_good", "field_in", "need_term", "field_of", "kids_of", "is_up_in", "mean_in", "lots_of", "up_in"]
def nm2 : List Str := ["next_level", "levels_in", "table_by", "best_in", "best_table", "_law_mixed", "_law_begin", "_law_draw", "_law_of", "_law_closed", "_law_checked", "_law_two", "_law_one", "_law_put", "_law_term", "_law_kids", "_law_facts_right", "_law_term_right"]
def nm : List Str := nm0 ++ nm1 ++ nm2
def ts : List He.Tab := [(fun K => He.ga K "LENGTHS", ["thing", "none", "beside", "below", "row", "turned", "moved", "times", "tied", "only"])]
def lens : List (Str × He.Dv) := [("thing", .int 3), ("none", .int 1), ("beside", .int 3), ("below", .int 3), ("row", .int 3), ("turned", .int 2), ("moved", .int 3), ("times", .int 3), ("tied", .int 4), ("only", .int 3)]
def tf : List He.Defn := [("field_in", none)]
def ex (K : PySem.W.Frag) : Bool := He.valsB K (He.ga K "LENGTHS") lens && (He.tupB K "LEAVES" [.str "thing", .str "none"] && He.tupB K "DOUBLE" [.str "beside", .str "below"])
def iLaw : Nat := 85
abbrev Rw : PySem.W.OpenRow := PySem.W.OpenLaw.row PySem.Challenge.rw_onerising_k25_whole_terms
abbrev hkX : PySem.W.Hook := He.hookX 6 fa fn ts tf ex
def ob (s : PySem.W.SharedT) : He.AlX := He.obsX 6 fa fn ts tf ex (HandSHeadRun.getT s)
theorem ob_eq (s : PySem.W.SharedT) : ob s = hkX.obs s.abs := He.obsX_eq (HandSHeadRun.getT_eq s)
theorem run0 (w : World) : HandSHeadRun.RunEq Rw (PySem.W.view Rw.prog [iLaw]) hkX ob 4000 nm (w.withFollow "special-get-raises" false) := fun os => by kernel_rfl
theorem run1 (w : World) : HandSHeadRun.RunEq Rw (PySem.W.view Rw.prog [iLaw]) hkX ob 4000 nm (w.withFollow "special-get-raises" true) := fun os => by kernel_rfl
theorem run (w : World) : HandSHeadRun.RunEq Rw (PySem.W.view Rw.prog [iLaw]) hkX ob 4000 nm w :=
  PySem.W.byRow2 "special-get-raises" (P := fun w => HandSHeadRun.RunEq Rw (PySem.W.view Rw.prog [iLaw]) hkX ob 4000 nm w) run0 run1 w
end Qp
set_option maxHeartbeats 0
namespace Qp
open PySem PySem.W PySem.Calls PyProof.Rows
/-- the head, but for the walk -/
theorem headR (call : PySem.W.WalkO (PySem.W.view Rw.prog [85]) nm (XL (PySem.W.view Rw.prog [85]) []) hkX.says Rw.toRowW (HandSHeadRun.topDef Rw.prog 85) [] fun f vs => PySem.call f vs) : PySem.Challenge.rw_onerising_k25_whole_terms.Holds := by
  w_on; o_law
  refine HandSHeadRun.head_any (r := Rw) (q := view Rw.prog [85]) (H := hkX) (ob := ob) (M := 4000) (loose := nm) (d := HandSHeadRun.topDef Rw.prog 85) (kwd := []) ob_eq
    (by kernel_rfl) (fun s => by kernel_rfl) run (by kernel_rfl) (by kernel_rfl) (by kernel_rfl) (by rfl) (by first | assumption | decide +kernel) (by decide +kernel) ⟨rfl, rfl, rfl, rfl, rfl, by decide +kernel⟩ ?hw call
  case hw => w_witness2
end Qp
set_option maxHeartbeats 2000000
namespace Qd
open PySem PySem.Spec PyProof.Rows L2

/-! ### data in a frozen heap -/
mutual
/-- v is the data d: lists are tracked ones (or the script), tuples tracked ones -/
inductive Rp (K : PySem.W.Frag) (H : Hp) : V → PyData → Prop
  | non : Rp K H .non .none
  | bl (b : Bool) : Rp K H (.bl b) (.bool b)
  | int (i : Int) : Rp K H (.int i) (.int i)
  | str (x : Str) : Rp K H (.str x) (.str x)
  | lst {a : Addr} {xs : List V} {ds : List PyData} : Rd H a (.lst xs) → RpAll K H xs ds → Rp K H (.ref a) (.list ds)
  | tup {a : Addr} {xs : List V} {ds : List PyData} : H a = some (.tup xs) → RpAll K H xs ds → Rp K H (.ref a) (.tuple ds)
inductive RpAll (K : PySem.W.Frag) (H : Hp) : List V → List PyData → Prop
  | nil : RpAll K H [] []
  | cons {v : V} {vs : List V} {d : PyData} {ds : List PyData} : Rp K H v d → RpAll K H vs ds → RpAll K H (v :: vs) (d :: ds)
end
mutual
theorem rp_dp {K : PySem.W.Frag} {F : Hp} : ∀ (d : PyData) (v : V), Rp K F v d → Dp K F v d
  | .none, _, h => by cases h; exact .non
  | .bool b, _, h => by cases h; exact .bl b
  | .int i, _, h => by cases h; exact .int i
  | .str x, _, h => by cases h; exact .str x
  | .list ds, _, h => by
    cases h with
    | lst hs ha => exact .lst (.inl hs) (rpAll_dp ds _ ha)
  | .tuple ds, _, h => by
    cases h with
    | tup hs ha => exact .tup (SqT.of hs) (rpAll_dp ds _ ha)
  | .dict _, _, h => by cases h
theorem rpAll_dp {K : PySem.W.Frag} {F : Hp} : ∀ (ds : List PyData) (vs : List V), RpAll K F vs ds → DpAll K F vs ds
  | [], _, h => by cases h; exact .nil
  | d :: ds, _, h => by
    cases h with
    | cons h1 h2 => exact .cons (rp_dp d _ h1) (rpAll_dp ds _ h2)
end
theorem rd_mono {F F' : Hp} (hf : ∀ b o, F b = some o → F' b = some o) {a : Addr} {u : HO} (h : Rd F a u) : Rd F' a u := by
  rcases h with h | ⟨o, h⟩
  · exact .inl (hf _ _ h)
  · exact .inr ⟨o, hf _ _ h⟩
mutual
theorem rp_mono {K : PySem.W.Frag} {F F' : Hp} (hf : ∀ b o, F b = some o → F' b = some o) : ∀ (d : PyData) (v : V), Rp K F v d → Rp K F' v d
  | .none, _, h => by cases h; exact .non
  | .bool b, _, h => by cases h; exact .bl b
  | .int i, _, h => by cases h; exact .int i
  | .str x, _, h => by cases h; exact .str x
  | .list ds, _, h => by
    cases h with
    | lst hs ha =>
      exact .lst (rd_mono hf hs) (rpAll_mono hf ds _ ha)
  | .tuple ds, _, h => by
    cases h with
    | tup hs ha =>
      exact .tup (hf _ _ hs) (rpAll_mono hf ds _ ha)
  | .dict _, _, h => by cases h
theorem rpAll_mono {K : PySem.W.Frag} {F F' : Hp} (hf : ∀ b o, F b = some o → F' b = some o) : ∀ (ds : List PyData) (vs : List V), RpAll K F vs ds → RpAll K F' vs ds
  | [], _, h => by cases h; exact .nil
  | d :: ds, _, h => by
    cases h with
    | cons h1 h2 => exact .cons (rp_mono hf d _ h1) (rpAll_mono hf ds _ h2)
end
theorem sqL_mono {K : PySem.W.Frag} {F F' : Hp} (hf : ∀ b o, F b = some o → F' b = some o) {a : Addr} {xs : List V} (hs : SqL K F a xs) : SqL K F' a xs := by
  rcases hs with (h | ⟨o, h⟩) | h
  · exact .inl (.inl (hf _ _ h))
  · exact .inl (.inr ⟨o, hf _ _ h⟩)
  · exact .inr h
theorem sqT_mono {K : PySem.W.Frag} {F F' : Hp} (hf : ∀ b o, F b = some o → F' b = some o) {a : Addr} {xs : List V} (hs : SqT K F a xs) : SqT K F' a xs := by
  rcases hs with (h | ⟨o, h⟩) | h
  · exact .inl (.inl (hf _ _ h))
  · exact .inl (.inr ⟨o, hf _ _ h⟩)
  · exact .inr h
theorem rpAll_len {K : PySem.W.Frag} {F : Hp} : ∀ {vs : List V} {ds : List PyData}, RpAll K F vs ds → vs.length = ds.length
  | [], _, h => by cases h; rfl
  | _ :: _, _, h => by
    cases h with
    | cons h1 h2 => simp [rpAll_len h2]
theorem rpAll_get {K : PySem.W.Frag} {F : Hp} : ∀ {vs : List V} {ds : List PyData} (i : Nat) {v : V} {d : PyData}, RpAll K F vs ds → vs[i]? = some v → ds[i]? = some d → Rp K F v d
  | [], _, i, _, _, _, e, _ => by simp at e
  | _ :: _, _, 0, _, _, h, e, e' => by
    cases h with
    | cons h1 h2 =>
      simp at e e'
      subst e e'
      exact h1
  | _ :: _, _, i + 1, _, _, h, e, e' => by
    cases h with
    | cons h1 h2 => exact rpAll_get i h2 (by simpa using e) (by simpa using e')
theorem rpAll_app {K : PySem.W.Frag} {F : Hp} : ∀ {vs ws : List V} {ds es : List PyData}, RpAll K F vs ds → RpAll K F ws es → RpAll K F (vs ++ ws) (ds ++ es)
  | [], _, _, _, h, h' => by cases h; exact h'
  | _ :: _, _, _, _, h, h' => by
    cases h with
    | cons h1 h2 => exact .cons h1 (rpAll_app h2 h')
theorem rpAll_take {K : PySem.W.Frag} {F : Hp} : ∀ (n : Nat) {vs : List V} {ds : List PyData}, RpAll K F vs ds → RpAll K F (vs.take n) (ds.take n)
  | 0, _, _, _ => .nil
  | n + 1, [], _, h => by cases h; exact .nil
  | n + 1, _ :: _, _, h => by
    cases h with
    | cons h1 h2 => exact .cons h1 (rpAll_take n h2)
theorem rpAll_drop {K : PySem.W.Frag} {F : Hp} : ∀ (n : Nat) {vs : List V} {ds : List PyData}, RpAll K F vs ds → RpAll K F (vs.drop n) (ds.drop n)
  | 0, _, _, h => h
  | n + 1, [], _, h => by cases h; exact .nil
  | n + 1, _ :: _, _, h => by
    cases h with
    | cons h1 h2 => exact rpAll_drop n h2
theorem rpAll_rev {K : PySem.W.Frag} {F : Hp} : ∀ {vs : List V} {ds : List PyData}, RpAll K F vs ds → RpAll K F vs.reverse ds.reverse
  | [], _, h => by cases h; exact .nil
  | _ :: _, _, h => by
    cases h with
    | cons h1 h2 =>
      rw [List.reverse_cons, List.reverse_cons]
      exact rpAll_app (rpAll_rev h2) (.cons h1 .nil)

/-! ### what a call may change; the frozen part F of the heap H -/
structure Wd where
  M : Addr → Prop
  J : Hp → Hp → Prop
  st : Addr
  stab : ∀ F H F' H', J F H → (∀ b o, F b = some o → F' b = some o) → (∀ b, M b → H' b = H b) → J F' H'
structure Gd (W : Wd) (F H : Hp) : Prop where
  sub : ∀ b o, F b = some o → H b = some o
  mf : ∀ b, W.M b → F b = none
  mh : ∀ b, W.M b → H b ≠ none
  j : W.J F H
  tp : ∀ b xs, H b = some (.tup xs) → F b = some (.tup xs)
structure Gr (W : Wd) (F H F' H' : Hp) : Prop where
  f : ∀ b o, F b = some o → F' b = some o
  n : ∀ b, H b ≠ none → F' b = F b
  h : ∀ b o, ¬ W.M b → H b = some o → H' b = some o
  k : ∀ b, H b ≠ none → H' b ≠ none
theorem Gr.refl {W : Wd} {F H : Hp} : Gr W F H F H := ⟨fun _ _ e => e, fun _ _ => rfl, fun _ _ _ e => e, fun _ e => e⟩
theorem Gr.trans {W : Wd} {F H F1 H1 F2 H2 : Hp} (a : Gr W F H F1 H1) (b : Gr W F1 H1 F2 H2) : Gr W F H F2 H2 :=
  ⟨fun c o e => b.f c o (a.f c o e), fun c e => (b.n c (a.k c e)).trans (a.n c e), fun c o m e => b.h c o m (a.h c o m e), fun c e => b.k c (a.k c e)⟩
theorem Gd.fnone {W : Wd} {F H : Hp} (g : Gd W F H) {p : Addr} (e : H p = none) : F p = none := by
  cases q : F p with
  | none => rfl
  | some o => rw [g.sub p o q] at e; cases e
/-- a frozen object is laid -/
theorem Gd.laid {W : Wd} {F H : Hp} (g : Gd W F H) {p : Addr} {o : HO} (e : H p = none) : Gd W (upd F p o) (upd H p o) ∧ Gr W F H (upd F p o) (upd H p o) := by
  have mp : ∀ b, W.M b → b ≠ p := fun b m z => g.mh b m (by rw [z]; exact e)
  have hp : ∀ b u, H b = some u → b ≠ p := fun b u q z => by rw [z, e] at q; cases q
  have hp' : ∀ b, H b ≠ none → b ≠ p := fun b q z => q (by rw [z]; exact e)
  have fF : ∀ b u, F b = some u → upd F p o b = some u := fun b u q => by rw [upd_ne (hp b u (g.sub b u q))]; exact q
  refine ⟨⟨fun b u q => ?_, fun b m => ?_, fun b m => ?_, W.stab _ _ _ _ g.j fF (fun b m => upd_ne (mp b m)), fun b xs q => ?_⟩, ⟨fF, fun b q => upd_ne (hp' b q), fun b u _ q => ?_, fun b q => ?_⟩⟩
  · by_cases z : b = p
    · subst z
      rw [upd_same] at q ⊢
      exact q
    · rw [upd_ne z] at q ⊢
      exact g.sub b u q
  · rw [upd_ne (mp b m)]
    exact g.mf b m
  · rw [upd_ne (mp b m)]
    exact g.mh b m
  · by_cases z : b = p
    · subst z
      rw [upd_same] at q ⊢
      exact q
    · rw [upd_ne z] at q ⊢
      exact g.tp b xs q
  · rw [upd_ne (hp b u q)]
    exact q
  · rw [upd_ne (hp' b q)]
    exact q
/-- an object that is not frozen is laid, or changed -/
theorem Gd.free {W : Wd} {F H : Hp} (g : Gd W F H) {p : Addr} {o : HO} (e : F p = none) (m : ¬ W.M p) (ho : ∀ xs, o ≠ .tup xs := by intro _ z; cases z) : Gd W F (upd H p o) := by
  have mp : ∀ b, W.M b → b ≠ p := fun b q z => m (by rw [← z]; exact q)
  refine ⟨fun b u q => ?_, g.mf, fun b q => ?_, W.stab _ _ _ _ g.j (fun _ _ q => q) (fun b q => upd_ne (mp b q)), fun b xs q => ?_⟩
  · by_cases z : b = p
    · rw [z, e] at q; cases q
    · rw [upd_ne z]
      exact g.sub b u q
  · rw [upd_ne (mp b q)]
    exact g.mh b q
  · by_cases z : b = p
    · rw [z, upd_same] at q
      exact absurd (Option.some.inj q) (ho xs)
    · rw [upd_ne z] at q
      exact g.tp b xs q
theorem Gd.notM {W : Wd} {F H : Hp} (g : Gd W F H) {p : Addr} (e : H p = none) : ¬ W.M p := fun m => g.mh p m e
theorem Gr.new {W : Wd} {F H : Hp} {p : Addr} {o : HO} (e : H p = none) : Gr W F H F (upd H p o) := by
  have hp' : ∀ b, H b ≠ none → b ≠ p := fun b q z => q (by rw [z]; exact e)
  refine ⟨fun _ _ q => q, fun _ _ => rfl, fun b u _ q => ?_, fun b q => ?_⟩
  · rw [upd_ne (hp' b (by rw [q]; simp))]
    exact q
  · rw [upd_ne (hp' b q)]
    exact q
/-- the heap ahead of which p was not there -/
theorem Gr.none_of {W : Wd} {F H F' H' : Hp} (g : Gr W F H F' H') {p : Addr} (e : H' p = none) : H p = none := by
  cases q : H p with
  | none => rfl
  | some o => exact absurd e (g.k p (by rw [q]; simp))
/-- p, new since H0, is changed -/
theorem Gr.chg {W : Wd} {F H F0 H0 : Hp} (g : Gr W F0 H0 F H) {p : Addr} {o : HO} (e : H0 p = none) : Gr W F0 H0 F (upd H p o) := by
  have hp' : ∀ b, H0 b ≠ none → b ≠ p := fun b q z => q (by rw [z]; exact e)
  refine ⟨g.f, g.n, fun b u m q => ?_, fun b q => ?_⟩
  · rw [upd_ne (hp' b (by rw [q]; simp))]
    exact g.h b u m q
  · rw [upd_ne (hp' b q)]
    exact g.k b q

/-! ### environments -/
inductive Bd where
  | no
  | val (d : PyData)
  | lst (ds : List PyData)
  | dK (kvs : List (Key × PyData))
  | dT (kvs : List (List Key × PyData))
  | st
abbrev En := List Bd
def Own : Bd → Prop
  | .lst _ => True
  | .dK _ => True
  | .dT _ => True
  | _ => False
def KvAll {κ : Type} (K : PySem.W.Frag) (F : Hp) : List (κ × V) → List (κ × PyData) → Prop := Paired fun p q => p.1 = q.1 ∧ Rp K F p.2 q.2
theorem kvAll_mono {κ : Type} {K : PySem.W.Frag} {F F' : Hp} (hf : ∀ b o, F b = some o → F' b = some o) {xs : List (κ × V)} {ys : List (κ × PyData)} (h : KvAll K F xs ys) : KvAll K F' xs ys :=
  Paired.mapP h fun _ _ q => ⟨q.1, rp_mono hf _ _ q.2⟩
section
variable (K : PySem.W.Frag) (W : Wd) (H0 F H : Hp)
def SlotOk (o : Option V) : Bd → Prop
  | .no => True
  | .val d => ∃ v, o = some v ∧ Rp K F v d
  | .lst ds => ∃ a xs, o = some (.ref a) ∧ H a = some (.lst xs) ∧ RpAll K F xs ds ∧ F a = none ∧ ¬ W.M a ∧ H0 a = none
  | .dK kvs => ∃ a xs, o = some (.ref a) ∧ H a = some (.dK xs) ∧ KvAll K F xs kvs ∧ F a = none ∧ ¬ W.M a ∧ H0 a = none
  | .dT kvs => ∃ a xs, o = some (.ref a) ∧ H a = some (.dT xs) ∧ KvAll K F xs kvs ∧ F a = none ∧ ¬ W.M a ∧ H0 a = none
  | .st => o = some (.ref W.st)
structure EnvOk (σ : L2.St) (ρ : En) : Prop where
  len : σ.length = ρ.length
  slot : ∀ i, SlotOk K W H0 F H (σ.getD i none) (ρ.getD i .no)
  uniq : ∀ i j a, i ≠ j → Own (ρ.getD i .no) → Own (ρ.getD j .no) → σ.getD i none = some (.ref a) → σ.getD j none ≠ some (.ref a)
end
theorem slot_grow {K : PySem.W.Frag} {W : Wd} {H0 F H F' H' : Hp} {o : Option V} {b : Bd} (g : Gr W F H F' H') (h : SlotOk K W H0 F H o b) : SlotOk K W H0 F' H' o b := by
  cases b with
  | no => exact trivial
  | val d =>
    obtain ⟨v, e, q⟩ := h
    exact ⟨v, e, rp_mono g.f _ _ q⟩
  | lst ds =>
    obtain ⟨a, xs, e, q, r, n, m, z⟩ := h
    exact ⟨a, xs, e, g.h _ _ m q, rpAll_mono g.f _ _ r, (g.n a (by rw [q]; simp)).trans n, m, z⟩
  | dK ds =>
    obtain ⟨a, xs, e, q, r, n, m, z⟩ := h
    exact ⟨a, xs, e, g.h _ _ m q, kvAll_mono g.f r, (g.n a (by rw [q]; simp)).trans n, m, z⟩
  | dT ds =>
    obtain ⟨a, xs, e, q, r, n, m, z⟩ := h
    exact ⟨a, xs, e, g.h _ _ m q, kvAll_mono g.f r, (g.n a (by rw [q]; simp)).trans n, m, z⟩
  | st => exact h
theorem EnvOk.grow {K : PySem.W.Frag} {W : Wd} {H0 F H F' H' : Hp} {σ : L2.St} {ρ : En} (e : EnvOk K W H0 F H σ ρ) (g : Gr W F H F' H') : EnvOk K W H0 F' H' σ ρ :=
  ⟨e.len, fun i => slot_grow g (e.slot i), e.uniq⟩
theorem getD_some {σ : L2.St} {i : Nat} {v : V} (e : σ.getD i none = some v) : σ[i]? = some (some v) := by
  rw [List.getD_eq_getElem?_getD] at e
  cases q : σ[i]? with
  | none => rw [q] at e; cases e
  | some o => rw [q] at e; simp at e; rw [e]
end Qd
set_option maxHeartbeats 2000000
namespace Qd
open PySem PySem.Spec PyProof.Rows L2

/-! ### judgements -/
abbrev WE := En → (PyData → Prop) → Prop
abbrev WT := En → (Bool → Prop) → Prop
abbrev WA := En → (List Bd → Prop) → Prop
structure WEnds where
  nx : En → Prop
  rt : PyData → Prop
  bk : En → Prop := fun _ => False
  ct : En → Prop := fun _ => False
abbrev WS := WEnds → En → Prop

/-- what a value's arrival must give -/
def KD (K : PySem.W.Frag) (W : Wd) (F H : Hp) (P : PyData → Prop) (Q : VK) : Prop :=
  ∀ d, P d → ∀ v F' H', Gd W F' H' → Gr W F H F' H' → Rp K F' v d → Q v H'
def lE (K : PySem.W.Frag) (W : Wd) (w : WE) : TE := fun σ H Q => ∃ F ρ H0 P, Gd W F H ∧ EnvOk K W H0 F H σ ρ ∧ w ρ P ∧ KD K W F H P Q
def lT (K : PySem.W.Frag) (W : Wd) (w : WT) : TT := fun σ H Q => ∃ F ρ H0 P, Gd W F H ∧ EnvOk K W H0 F H σ ρ ∧ w ρ P ∧ ∀ b, P b → ∀ F' H', Gd W F' H' → Gr W F H F' H' → Q b H'
/-- an argument is data or the state -/
def ArgOk (K : PySem.W.Frag) (W : Wd) (F : Hp) (v : V) : Bd → Prop
  | .val d => Rp K F v d
  | .st => v = .ref W.st
  | _ => False
def lA (K : PySem.W.Frag) (W : Wd) (w : WA) : TA := fun σ H Q => ∃ F ρ H0 P, Gd W F H ∧ EnvOk K W H0 F H σ ρ ∧ w ρ P ∧ ∀ bs, P bs → ∀ vs F' H', Gd W F' H' → Gr W F H F' H' → Paired (ArgOk K W F') vs bs → Q vs H'
/-- a list of the slot's own, or one that is frozen -/
def Shl (K : PySem.W.Frag) (W : Wd) (F H : Hp) (v : V) (d : PyData) : Prop :=
  Rp K F v d ∨ ∃ a xs ds, v = .ref a ∧ d = .list ds ∧ H a = some (.lst xs) ∧ RpAll K F xs ds ∧ ¬ W.M a
def lP (K : PySem.W.Frag) (W : Wd) (w : WE) : TE := fun σ H Q => ∃ F ρ H0 P, Gd W F H ∧ EnvOk K W H0 F H σ ρ ∧ w ρ P ∧
  ∀ d, P d → ∀ v F' H', Gd W F' H' → Gr W F H F' H' → Shl K W F' H' v d → Q v H'
/-- a list that nobody else holds -/
def lF (K : PySem.W.Frag) (W : Wd) (w : En → (List PyData → Prop) → Prop) : TE := fun σ H Q => ∃ F ρ H0 P, Gd W F H ∧ EnvOk K W H0 F H σ ρ ∧ w ρ P ∧
  ∀ ds, P ds → ∀ a xs F' H', Gd W F' H' → Gr W F H F' H' → H a = none → H' a = some (.lst xs) → F' a = none → RpAll K F' xs ds → Q (.ref a) H'
structure ImpE (K : PySem.W.Frag) (W : Wd) (H0 F0 : Hp) (E : WEnds) (D : Ends) : Prop where
  nx : ∀ ρ, E.nx ρ → ∀ σ F H, Gd W F H → Gr W F0 H0 F H → EnvOk K W H0 F H σ ρ → D.nx σ H
  bk : ∀ ρ, E.bk ρ → ∀ σ F H, Gd W F H → Gr W F0 H0 F H → EnvOk K W H0 F H σ ρ → D.bk σ H
  ct : ∀ ρ, E.ct ρ → ∀ σ F H, Gd W F H → Gr W F0 H0 F H → EnvOk K W H0 F H σ ρ → D.ct σ H
  rt : ∀ d, E.rt d → ∀ v F H, Gd W F H → Gr W F0 H0 F H → Rp K F v d → D.rt v H
def lS (K : PySem.W.Frag) (W : Wd) (H0 : Hp) (w : WS) : TS := fun D σ H => ∃ F0 F ρ E, Gd W F H ∧ Gr W F0 H0 F H ∧ EnvOk K W H0 F H σ ρ ∧ w E ρ ∧ ImpE K W H0 F0 E D
abbrev DE (W : Wd) (X : Cx) (e : Expr) (w : WE) : Prop := PE X e (lE X.K W w)
abbrev DPk (W : Wd) (X : Cx) (e : Expr) (w : WE) : Prop := PE X e (lP X.K W w)
abbrev DF (W : Wd) (X : Cx) (e : Expr) (w : En → (List PyData → Prop) → Prop) : Prop := PE X e (lF X.K W w)
abbrev DT (W : Wd) (X : Cx) (e : Expr) (w : WT) : Prop := PT X e (lT X.K W w)
abbrev DA (W : Wd) (X : Cx) (es : List Expr) (w : WA) : Prop := PA X es (lA X.K W w)
abbrev DS (W : Wd) (H0 : Hp) (X : Cx) (st : Stmt) (w : WS) : Prop := PS X st (lS X.K W H0 w)
abbrev DSs (W : Wd) (H0 : Hp) (X : Cx) (st : List Stmt) (w : WS) : Prop := PSs X st (lS X.K W H0 w)

section
variable {X : Cx} {e : Expr}
theorem pe_weak {t t' : TE} (h : PE X e t) (hw : ∀ σ H Q, t' σ H Q → t σ H Q) : PE X e t' := ⟨fun pins s σ H Q I q => h.run pins s σ H Q I (hw _ _ _ q)⟩
theorem pt_weak {t t' : TT} (h : PT X e t) (hw : ∀ σ H Q, t' σ H Q → t σ H Q) : PT X e t' := ⟨fun pins s σ H Q I q => h.run pins s σ H Q I (hw _ _ _ q)⟩
theorem pw_weak {t t' : TT} (h : PW X e t) (hw : ∀ σ H Q, t' σ H Q → t σ H Q) : PW X e t' := ⟨fun wh pins s σ H Q I q => h.run wh pins s σ H Q I (hw _ _ _ q)⟩
theorem pa_weak {es : List Expr} {t t' : TA} (h : PA X es t) (hw : ∀ σ H Q, t' σ H Q → t σ H Q) : PA X es t' := ⟨fun p pins s σ H Q I q => h.run p pins s σ H Q I (hw _ _ _ q)⟩
theorem ps_weak {st : Stmt} {t t' : TS} (h : PS X st t) (hw : ∀ D σ H, t' D σ H → t D σ H) : PS X st t' := ⟨fun pins s σ H Q I q => h.run pins s σ H Q I (hw _ _ _ q)⟩
theorem pss_weak {st : List Stmt} {t t' : TS} (h : PSs X st t) (hw : ∀ D σ H, t' D σ H → t D σ H) : PSs X st t' := ⟨fun pins s σ H Q I q => h.run pins s σ H Q I (hw _ _ _ q)⟩
end

/-! ### expressions -/
section
variable {W : Wd} {X : Cx} {a b c e : Expr} {wa wb wc : WE} {pos : Pos}
/-- chaining: what comes behind a value -/
theorem KD.then {K : PySem.W.Frag} {F H F1 H1 : Hp} {P : PyData → Prop} {Q : VK} (k : KD K W F H P Q) (g : Gr W F H F1 H1) : KD K W F1 H1 P Q :=
  fun d p v F' H' gd gr dp => k d p v F' H' gd (g.trans gr) dp
theorem lE_of {K : PySem.W.Frag} {F H H0 : Hp} {σ : L2.St} {ρ : En} {w : WE} {P : PyData → Prop} {Q : VK} (g : Gd W F H) (ev : EnvOk K W H0 F H σ ρ) (h : w ρ P) (k : KD K W F H P Q) : lE K W w σ H Q := ⟨F, ρ, H0, P, g, ev, h, k⟩
theorem KD.val {K : PySem.W.Frag} {F H : Hp} {P : PyData → Prop} {Q : VK} {d : PyData} {v : V} (k : KD K W F H P Q) (g : Gd W F H) (p : P d) (dp : Rp K F v d) : Q v H := k d p v F H g Gr.refl dp

def wVar (i : Nat) : WE := fun ρ Q => match ρ.getD i .no with
  | .val d => Q d
  | _ => False
theorem de_var (i : Nat) {x : Str} (hN : X.N[i]? = some x := by rfl) (hv : Vis X.env.scope x := by first | exact Or.inl rfl | exact Or.inr (Or.inl rfl) | exact Or.inr (Or.inr rfl)) (hd : (x == ("__debug__" : Str)) = false := by decide)
    (hcd : (x == ("__classdict__" : Str)) = false := by decide) : DE W X (.Name x pos) (wVar i) := by
  refine pe_weak (pe_var hN hv hd hcd) fun σ H Q h => ?_
  obtain ⟨F, ρ, H0, P, g, ev, h, k⟩ := h
  unfold wVar at h
  have q := ev.slot i
  cases z : ρ.getD i .no with
  | val d =>
    rw [z] at h q
    obtain ⟨v, e, dp⟩ := q
    exact ⟨v, getD_some e, k.val g h dp⟩
  | _ => rw [z] at h; exact h.elim
/-- a name of a slot's own list, or of any data -/
def wPk (i : Nat) : WE := fun ρ Q => match ρ.getD i .no with
  | .val d => Q d
  | .lst ds => Q (.list ds)
  | _ => False
theorem dk_var (i : Nat) {x : Str} (hN : X.N[i]? = some x := by rfl) (hv : Vis X.env.scope x := by first | exact Or.inl rfl | exact Or.inr (Or.inl rfl) | exact Or.inr (Or.inr rfl)) (hd : (x == ("__debug__" : Str)) = false := by decide)
    (hcd : (x == ("__classdict__" : Str)) = false := by decide) : DPk W X (.Name x pos) (wPk i) := by
  refine pe_weak (pe_var hN hv hd hcd) fun σ H Q h => ?_
  obtain ⟨F, ρ, H0, P, g, ev, h, k⟩ := h
  unfold wPk at h
  have q := ev.slot i
  cases z : ρ.getD i .no with
  | val d =>
    rw [z] at h q
    obtain ⟨v, e, dp⟩ := q
    exact ⟨v, getD_some e, k d h v F H g Gr.refl (.inl dp)⟩
  | lst ds =>
    rw [z] at h q
    obtain ⟨a, xs, e, q, r, n, m, _⟩ := q
    exact ⟨_, getD_some e, k _ h _ F H g Gr.refl (.inr ⟨a, xs, ds, rfl, rfl, q, r, m⟩)⟩
  | _ => rw [z] at h; exact h.elim
theorem DE.pk {w : WE} (h : DE W X e w) : DPk W X e w := by
  refine pe_weak h fun σ H Q h => ?_
  obtain ⟨F, ρ, H0, P, g, ev, h, k⟩ := h
  exact ⟨F, ρ, H0, P, g, ev, h, fun d p v F' H' gd gr dp => k d p v F' H' gd gr (.inl dp)⟩
/-- a list that nobody holds is frozen -/
def wFz (w : En → (List PyData → Prop) → Prop) : WE := fun ρ Q => w ρ fun ds => Q (.list ds)
theorem DF.de {w : En → (List PyData → Prop) → Prop} (h : DF W X e w) : DE W X e (wFz w) := by
  refine pe_weak h fun σ H Q h => ?_
  obtain ⟨F, ρ, H0, P, g, ev, h, k⟩ := h
  refine ⟨F, ρ, H0, _, g, ev, h, fun ds p a xs F' H' gd gr hn ha hf dp => ?_⟩
  have hp : ∀ b u, F' b = some u → b ≠ a := fun b u q z => by rw [z, hf] at q; cases q
  have fF : ∀ b u, F' b = some u → upd F' a (.lst xs) b = some u := fun b u q => by rw [upd_ne (hp b u q)]; exact q
  have na : ∀ b, H b ≠ none → b ≠ a := fun b q z => q (by rw [z]; exact hn)
  have nm : ¬ W.M a := g.notM hn
  refine k _ p _ (upd F' a (.lst xs)) H' ⟨fun b u q => ?_, fun b m => ?_, gd.mh, W.stab _ _ _ _ gd.j fF (fun _ _ => rfl), fun b ys q => fF b _ (gd.tp b ys q)⟩ ⟨fun b u q => fF b u (gr.f b u q), fun b q => ?_, gr.h, gr.k⟩ (.lst (.inl upd_same) (rpAll_mono fF _ _ dp))
  · by_cases z : b = a
    · subst z
      rw [upd_same] at q
      rw [ha]
      exact q
    · rw [upd_ne z] at q
      exact gd.sub b u q
  · rw [upd_ne (fun z => nm (by rw [← z]; exact m))]
    exact gd.mf b m
  · rw [upd_ne (na b q)]
    exact gr.n b q
def wC (d : PyData) : WE := fun _ Q => Q d
theorem de_int {i j} : DE W X (.Constant (.int i) j pos) (wC (.int i)) := pe_weak pe_int fun σ H Q h => by
  obtain ⟨F, ρ, H0, P, g, ev, h, k⟩ := h
  exact k.val g h (.int i)
theorem de_bl {x j} : DE W X (.Constant (.bool x) j pos) (wC (.bool x)) := pe_weak pe_bl fun σ H Q h => by
  obtain ⟨F, ρ, H0, P, g, ev, h, k⟩ := h
  exact k.val g h (.bl x)
theorem de_non {j} : DE W X (.Constant .none j pos) (wC .none) := pe_weak pe_non fun σ H Q h => by
  obtain ⟨F, ρ, H0, P, g, ev, h, k⟩ := h
  exact k.val g h .non
theorem de_str {x j} : DE W X (.Constant (.str x) j pos) (wC (.str x)) := pe_weak pe_str fun σ H Q h => by
  obtain ⟨F, ρ, H0, P, g, ev, h, k⟩ := h
  exact k.val g h (.str x)
/-- a global that is an int, a str -/
theorem de_globI {x : Str} {i : Int} (hg : Gl X x) (hm : ∃ t, X.mg x = some (.int i t)) (hd : (x == ("__debug__" : Str)) = false := by decide) : DE W X (.Name x pos) (wC (.int i)) := by
  obtain ⟨t, hm⟩ := hm
  refine pe_weak (pe_glob (v := .int i) hg hm ⟨t, rfl⟩ hd) fun σ H Q h => ?_
  obtain ⟨F, ρ, H0, P, g, ev, h, k⟩ := h
  exact k.val g h (.int i)
theorem de_globS {x z : Str} (hg : Gl X x) (hm : ∃ t, X.mg x = some (.str z t)) (hd : (x == ("__debug__" : Str)) = false := by decide) : DE W X (.Name x pos) (wC (.str z)) := by
  obtain ⟨t, hm⟩ := hm
  refine pe_weak (pe_glob (v := .str z) hg hm ⟨t, rfl⟩ hd) fun σ H Q h => ?_
  obtain ⟨F, ρ, H0, P, g, ev, h, k⟩ := h
  exact k.val g h (.str z)
/-- a global that is data of the written part -/
theorem de_globD {x : Str} {f : Addr} {d : PyData} (hg : Gl X x) (hm : X.mg x = some (.ref f)) (hk : ∀ F, Rp X.K F (.ref f) d) (hd : (x == ("__debug__" : Str)) = false := by decide) : DE W X (.Name x pos) (wC d) := by
  refine pe_weak (pe_glob (v := .ref f) hg hm rfl hd) fun σ H Q h => ?_
  obtain ⟨F, ρ, H0, P, g, ev, h, k⟩ := h
  exact k.val g h (hk F)

/-! operators -/
abbrev WO := PyData → PyData → (PyData → Prop) → Prop
def wOp (r : WO) (wa wb : WE) : WE := fun ρ Q => wa ρ fun x => wb ρ fun y => r x y Q
def OpD (W : Wd) (X : Cx) (f : Value → Value → Sem Value) (r : WO) : Prop :=
  OpR X f fun x y H Q => ∃ F dx dy P, Gd W F H ∧ Rp X.K F x dx ∧ Rp X.K F y dy ∧ r dx dy P ∧ KD X.K W F H P Q
theorem t_op {r : WO} {wa wb : WE} {σ : L2.St} {H : Hp} {Q : VK} {K : PySem.W.Frag} (h : lE K W (wOp r wa wb) σ H Q) :
    tOp (fun x y H Q => ∃ F dx dy P, Gd W F H ∧ Rp K F x dx ∧ Rp K F y dy ∧ r dx dy P ∧ KD K W F H P Q) (lE K W wa) (lE K W wb) σ H Q := by
  obtain ⟨F, ρ, H0, P, g, ev, h, k⟩ := h
  refine ⟨F, ρ, H0, _, g, ev, h, fun dx hx vx F1 H1 g1 r1 px => ?_⟩
  refine ⟨F1, ρ, H0, _, g1, ev.grow r1, hx, fun dy hy vy F2 H2 g2 r2 py => ?_⟩
  exact ⟨F2, dx, dy, P, g2, rp_mono r2.f _ _ px, py, hy, (k.then r1).then r2⟩
theorem de_bin {op : Operator} {r : WO} (ho : OpD W X (binaryOp op) r) (ha : DE W X a wa) (hb : DE W X b wb) : DE W X (.BinOp a op b pos) (wOp r wa wb) :=
  pe_weak (pe_op ho ha hb) fun _ _ _ h => t_op h
theorem de_cmp {op : CmpOp} {r : WO} (ho : OpD W X (compareOp op) r) (ha : DE W X a wa) (hb : DE W X b wb) (hm : behindInMarks op b = false) : DE W X (.Compare a [op] [b] pos) (wOp r wa wb) :=
  pe_weak (pe_cmpR ho ha hb hm) fun _ _ _ h => t_op h
/-- an expression that gives a bool, as a test -/
def wTst (w : WE) : WT := fun ρ Q => w ρ fun d => match d with
  | .bool b => Q b
  | _ => False
theorem t_tst {K : PySem.W.Frag} {w : WE} {t : TE} (ht : ∀ σ H Q, lE K W w σ H Q → t σ H Q) {σ : L2.St} {H : Hp} {Q : Bool → Hp → Prop} (h : lT K W (wTst w) σ H Q) : t σ H fun x H' => ∃ k, x = .bl k ∧ Q k H' := by
  obtain ⟨F, ρ, H0, P, g, ev, h, k⟩ := h
  refine ht σ H _ ⟨F, ρ, H0, _, g, ev, h, fun d p v F' H' g' r' dp => ?_⟩
  cases d with
  | bool b =>
    cases dp
    exact ⟨b, rfl, k b p F' H' g' r'⟩
  | _ => exact p.elim
theorem dt_cmp {op : CmpOp} {r : WO} (ho : OpD W X (compareOp op) r) (ha : DE W X a wa) (hb : DE W X b wb) (hm : behindInMarks op b = false) : DT W X (.Compare a [op] [b] pos) (wTst (wOp r wa wb)) :=
  pt_weak (pt_cmpR ho ha hb hm) fun σ H Q h => t_tst (fun _ _ _ => t_op) h
theorem dt_val {w : WE} (he : DE W X e w) (hp : ∀ whole, isTrue e X.env whole = (do let v ← whole; standAt e.pos; holding [v] (truthy v)) := by intro _; rfl) : DT W X e (wTst w) :=
  pt_weak (pt_val he hp) fun σ H Q h => t_tst (fun _ _ _ z => z) h
/-! and, or, not -/
def wAnd (t u : WT) : WT := fun ρ Q => t ρ fun c => if c = true then u ρ Q else Q false
def wOr (t u : WT) : WT := fun ρ Q => t ρ fun c => if c = true then Q true else u ρ Q
def wNot (t : WT) : WT := fun ρ Q => t ρ fun c => Q (!c)
theorem lT_then {K : PySem.W.Frag} {F H F1 H1 H0 : Hp} {σ : L2.St} {ρ : En} {w : WT} {P : Bool → Prop} {Q : Bool → Hp → Prop} (g1 : Gd W F1 H1) (r1 : Gr W F H F1 H1) (ev : EnvOk K W H0 F H σ ρ) (h : w ρ P)
    (k : ∀ b, P b → ∀ F' H', Gd W F' H' → Gr W F H F' H' → Q b H') : lT K W w σ H1 Q := ⟨F1, ρ, H0, P, g1, ev.grow r1, h, fun b p F' H' g' r' => k b p F' H' g' (r1.trans r')⟩
abbrev DW (W : Wd) (X : Cx) (e : Expr) (w : WT) : Prop := PW X e (lT X.K W w)
variable {wx wy : WT} {rest : List Expr}
theorem dw_and1 (ha : DT W X a wx) : DW W X (.BoolOp .And [a] pos) wx := pw_and1 ha
theorem dw_or1 (ha : DT W X a wx) : DW W X (.BoolOp .Or [a] pos) wx := pw_or1 ha
theorem dw_and (ha : DT W X a wx) (hb : DW W X (.BoolOp .And (b :: rest) pos) wy) : DW W X (.BoolOp .And (a :: b :: rest) pos) (wAnd wx wy) :=
  pw_weak (pw_and ha hb) fun σ H Q h => by
    obtain ⟨F, ρ, H0, P, g, ev, h, k⟩ := h
    refine ⟨F, ρ, H0, _, g, ev, h, fun c p F1 H1 g1 r1 => ?_⟩
    cases c with
    | true => exact lT_then g1 r1 ev p k
    | false => exact k false p F1 H1 g1 r1
theorem dw_or (ha : DT W X a wx) (hb : DW W X (.BoolOp .Or (b :: rest) pos) wy) : DW W X (.BoolOp .Or (a :: b :: rest) pos) (wOr wx wy) :=
  pw_weak (pw_or ha hb) fun σ H Q h => by
    obtain ⟨F, ρ, H0, P, g, ev, h, k⟩ := h
    refine ⟨F, ρ, H0, _, g, ev, h, fun c p F1 H1 g1 r1 => ?_⟩
    cases c with
    | true => exact k true p F1 H1 g1 r1
    | false => exact lT_then g1 r1 ev p k
theorem dt_not (ha : DT W X a wx) : DT W X (.UnaryOp .Not a pos) (wNot wx) := pt_weak (pt_not ha) fun σ H Q h => by
  obtain ⟨F, ρ, H0, P, g, ev, h, k⟩ := h
  exact ⟨F, ρ, H0, _, g, ev, h, fun c p F1 H1 g1 r1 => k _ p F1 H1 g1 r1⟩
def wAndV (wa wb : WE) : WE := fun ρ Q => wa ρ fun x => match x with
  | .bool c => if c = true then wb ρ Q else Q (.bool false)
  | _ => False
def wOrV (wa wb : WE) : WE := fun ρ Q => wa ρ fun x => match x with
  | .bool c => if c = true then Q (.bool true) else wb ρ Q
  | _ => False
def wNotV (wa : WE) : WE := fun ρ Q => wa ρ fun x => match x with
  | .bool c => Q (.bool !c)
  | _ => False
theorem de_one {op} (h : DE W X a wa) : DE W X (.BoolOp op [a] pos) wa := pe_one h
theorem de_and (ha : DE W X a wa) (hb : DE W X (.BoolOp .And (b :: rest) pos) wb) : DE W X (.BoolOp .And (a :: b :: rest) pos) (wAndV wa wb) :=
  pe_weak (pe_and ha hb) fun σ H Q h => by
    obtain ⟨F, ρ, H0, P, g, ev, h, k⟩ := h
    refine ⟨F, ρ, H0, _, g, ev, h, fun d p v F1 H1 g1 r1 dp => ?_⟩
    cases d with
    | bool c =>
      cases dp
      refine ⟨c, rfl, ?_⟩
      cases c with
      | true => exact lE_of g1 (ev.grow r1) p (k.then r1)
      | false => exact (k.then r1).val g1 p (.bl false)
    | _ => exact p.elim
theorem de_or (ha : DE W X a wa) (hb : DE W X (.BoolOp .Or (b :: rest) pos) wb) : DE W X (.BoolOp .Or (a :: b :: rest) pos) (wOrV wa wb) :=
  pe_weak (pe_or ha hb) fun σ H Q h => by
    obtain ⟨F, ρ, H0, P, g, ev, h, k⟩ := h
    refine ⟨F, ρ, H0, _, g, ev, h, fun d p v F1 H1 g1 r1 dp => ?_⟩
    cases d with
    | bool c =>
      cases dp
      refine ⟨c, rfl, ?_⟩
      cases c with
      | true => exact (k.then r1).val g1 p (.bl true)
      | false => exact lE_of g1 (ev.grow r1) p (k.then r1)
    | _ => exact p.elim
theorem de_not (ha : DE W X a wa) : DE W X (.UnaryOp .Not a pos) (wNotV wa) := pe_weak (pe_not ha) fun σ H Q h => by
  obtain ⟨F, ρ, H0, P, g, ev, h, k⟩ := h
  refine ⟨F, ρ, H0, _, g, ev, h, fun d p v F1 H1 g1 r1 dp => ?_⟩
  cases d with
  | bool c =>
    cases dp
    exact ⟨c, rfl, (k.then r1).val g1 p (.bl _)⟩
  | _ => exact p.elim
def wIf (t : WT) (wa wb : WE) : WE := fun ρ Q => t ρ fun c => if c = true then wa ρ Q else wb ρ Q
theorem de_if (hc : DT W X c wx) (ha : DE W X a wa) (hb : DE W X b wb) : DE W X (.IfExp c a b pos) (wIf wx wa wb) := pe_weak (pe_ifExp hc ha hb) fun σ H Q h => by
  obtain ⟨F, ρ, H0, P, g, ev, h, k⟩ := h
  refine ⟨F, ρ, H0, _, g, ev, h, fun c p F1 H1 g1 r1 => ?_⟩
  cases c with
  | true => exact lE_of g1 (ev.grow r1) p (k.then r1)
  | false => exact lE_of g1 (ev.grow r1) p (k.then r1)
/-! unary, by values -/
def wUn (r : PyData → (PyData → Prop) → Prop) (wa : WE) : WE := fun ρ Q => wa ρ fun x => r x Q
def rNegD : PyData → (PyData → Prop) → Prop := fun x Q => match x with
  | .int i => Q (.int (-i))
  | _ => False
theorem de_neg (ha : DE W X a wa) : DE W X (.UnaryOp .USub a pos) (wUn rNegD wa) := pe_weak (pe_un un_neg ha) fun σ H Q h => by
  obtain ⟨F, ρ, H0, P, g, ev, h, k⟩ := h
  refine ⟨F, ρ, H0, _, g, ev, h, fun d p v F1 H1 g1 r1 dp => ?_⟩
  cases d with
  | int i =>
    cases dp
    exact ⟨i, rfl, (k.then r1).val g1 p (.int _)⟩
  | _ => exact p.elim
/-! a chain of two comparisons -/
def wChain (r r' : WO) (wa wb wc : WE) : WE := fun ρ Q => wa ρ fun x => wb ρ fun y => r x y fun z => match z with
  | .bool k => if k = true then wc ρ fun u => r' y u Q else Q (.bool false)
  | _ => False
end
end Qd
set_option maxHeartbeats 2000000
namespace Qd
open PySem PySem.Spec PyProof.Rows L2

/-! ### lists that are read -/
theorem rd_lst {X : Cx} {pins : List (Addr × Obj)} {σ : L2.St} {H : Hp} {s : Shared} {l : Addr} {xs : List V} (I : Inv X pins σ H s) (hH : Rd H l (.lst xs)) :
    xs.length ≤ sizeLine ∧ ∃ (its : List Value) (n : Nat), Vals xs its ∧ xs.length = its.length ∧ s.heap.get? l = some { cls := .type "list", data := .seq its.toArray n } := by
  obtain ⟨z, its, n, r, e⟩ := hH.ok I.hok
  exact ⟨z, its, n, r, r.length, e⟩
def Shr (K : PySem.W.Frag) (F H : Hp) (v : V) (ds : List PyData) : Prop := ∃ a xs, v = .ref a ∧ Rd H a (.lst xs) ∧ RpAll K F xs ds
theorem shl_list {K : PySem.W.Frag} {W : Wd} {F H : Hp} (g : Gd W F H) {v : V} {ds : List PyData} (h : Shl K W F H v (.list ds)) : Shr K F H v ds := by
  rcases h with h | ⟨a, xs, es, rfl, e, hH, r, _⟩
  · cases h with
    | lst hs ha => exact ⟨_, _, rfl, rd_mono g.sub hs, ha⟩
  · cases e
    exact ⟨a, xs, rfl, .inl hH, r⟩
theorem shl_rp {K : PySem.W.Frag} {W : Wd} {F H : Hp} {v : V} {d : PyData} (h : Shl K W F H v d) (n : ∀ ds, d ≠ .list ds) : Rp K F v d := by
  rcases h with h | ⟨a, xs, es, rfl, e, hH, r, _⟩
  · exact h
  · exact absurd e (n es)
theorem dpH {K : PySem.W.Frag} {W : Wd} {F H : Hp} (g : Gd W F H) {v : V} {d : PyData} (h : Shl K W F H v d) : Dp K H v d := by
  rcases h with h | ⟨a, xs, es, rfl, e, hH, r, _⟩
  · exact rp_dp _ _ (rp_mono g.sub _ _ h)
  · cases e
    exact .lst (.inl (.inl hH)) (rpAll_dp _ _ (rpAll_mono g.sub _ _ r))
theorem sqT_of {K : PySem.W.Frag} {W : Wd} {F H : Hp} (g : Gd W F H) {v : V} {ds : List PyData} (h : Rp K F v (.tuple ds)) : ∃ a xs, v = .ref a ∧ SqT K H a xs ∧ RpAll K F xs ds := by
  cases h with
  | tup hs ha => exact ⟨_, _, rfl, SqT.of (g.sub _ _ hs), ha⟩

/-- a value behind nothing -/
theorem KD.laid {K : PySem.W.Frag} {W : Wd} {F H : Hp} {P : PyData → Prop} {Q : VK} {d : PyData} {p : Addr} {o : HO} (k : KD K W F H P Q) (g : Gd W F H) (e : H p = none) (hp : P d) (r : Rp K (upd F p o) (.ref p) d) : Q (.ref p) (upd H p o) :=
  let ⟨g', r'⟩ := g.laid (o := o) e
  k d hp _ _ _ g' r' r
theorem up_f {F H : Hp} {W : Wd} (g : Gd W F H) {p : Addr} {o : HO} (e : H p = none) : ∀ b u, F b = some u → upd F p o b = some u := (g.laid (o := o) e).2.f
theorem rp_tupN {K : PySem.W.Frag} {W : Wd} {F H : Hp} (g : Gd W F H) {p : Addr} {xs : List V} {ds : List PyData} (e : H p = none) (r : RpAll K F xs ds) : Rp K (upd F p (.tup xs)) (.ref p) (.tuple ds) :=
  .tup upd_same (rpAll_mono (up_f g e) _ _ r)

section
variable {W : Wd} {X : Cx}
/-! ### operators on ints -/
def rII (C : Int → Int → Prop) (f : Int → Int → PyData) : WO := fun x y Q => match x, y with
  | .int i, .int j => C i j ∧ Q (f i j)
  | _, _ => False
theorem rII_of {C : Int → Int → Prop} {f : Int → Int → PyData} {x y : PyData} {P : PyData → Prop} (h : rII C f x y P) : ∃ i j, x = .int i ∧ y = .int j ∧ C i j ∧ P (f i j) := by
  unfold rII at h
  cases x with
  | int i =>
    cases y with
    | int j => exact ⟨i, j, rfl, rfl, h⟩
    | _ => exact h.elim
  | _ => exact h.elim
theorem od_ii {f : Value → Value → Sem Value} {C : Int → Int → Prop} {g : Int → Int → Int} (ho : OpR X f (rI C fun i j => .int (g i j))) : OpD W X f (rII C fun i j => .int (g i j)) := by
  intro pins s σ H x y v u Q I rx ry h
  obtain ⟨F, dx, dy, P, gd, px, py, h, k⟩ := h
  obtain ⟨i, j, rfl, rfl, c, p⟩ := rII_of h
  cases px
  cases py
  exact ho pins s σ H _ _ v u Q I rx ry ⟨i, j, rfl, rfl, c, k.val gd p (.int _)⟩
theorem od_i0 {f : Value → Value → Sem Value} {g : Int → Int → Int} (ho : OpR X f (rI0 fun i j => .int (g i j))) : OpD W X f (rII (fun _ _ => True) fun i j => .int (g i j)) := by
  intro pins s σ H x y v u Q I rx ry h
  obtain ⟨F, dx, dy, P, gd, px, py, h, k⟩ := h
  obtain ⟨i, j, rfl, rfl, c, p⟩ := rII_of h
  cases px
  cases py
  exact ho pins s σ H _ _ v u Q I rx ry ⟨i, j, rfl, rfl, k.val gd p (.int _)⟩
theorem od_b0 {f : Value → Value → Sem Value} {g : Int → Int → Bool} (ho : OpR X f (rI0 fun i j => .bl (g i j))) : OpD W X f (rII (fun _ _ => True) fun i j => .bool (g i j)) := by
  intro pins s σ H x y v u Q I rx ry h
  obtain ⟨F, dx, dy, P, gd, px, py, h, k⟩ := h
  obtain ⟨i, j, rfl, rfl, c, p⟩ := rII_of h
  cases px
  cases py
  exact ho pins s σ H _ _ v u Q I rx ry ⟨i, j, rfl, rfl, k.val gd p (.bl _)⟩
abbrev rAddI : WO := rII (fun _ _ => True) fun i j => .int (i + j)
abbrev rSubI : WO := rII (fun _ _ => True) fun i j => .int (i - j)
abbrev rMulI : WO := rII CMul fun i j => .int (i * j)
abbrev rDivI : WO := rII CDivN fun i j => .int (i.fdiv j)
abbrev rModI : WO := rII (fun _ j => j ≠ 0) fun i j => .int (i.fmod j)
abbrev rPowI : WO := rII CPow fun i j => .int (i ^ j.toNat)
abbrev rLtI : WO := rII (fun _ _ => True) fun i j => .bool (decide (i < j))
abbrev rLeI : WO := rII (fun _ _ => True) fun i j => .bool (decide (i ≤ j))
abbrev rGtI : WO := rII (fun _ _ => True) fun i j => .bool (decide (j < i))
abbrev rGeI : WO := rII (fun _ _ => True) fun i j => .bool (decide (j ≤ i))
theorem od_add : OpD W X (binaryOp .Add) rAddI := od_i0 op_add
theorem od_sub : OpD W X (binaryOp .Sub) rSubI := od_i0 op_sub
theorem od_mul : OpD W X (binaryOp .Mult) rMulI := od_ii op_mul
theorem od_div : OpD W X (binaryOp .FloorDiv) rDivI := od_ii op_fdivN
theorem od_mod : OpD W X (binaryOp .Mod) rModI := od_ii op_modN
theorem od_pow : OpD W X (binaryOp .Pow) rPowI := od_ii op_pow
theorem od_lt : OpD W X (compareOp .Lt) rLtI := od_b0 op_lt
theorem od_le : OpD W X (compareOp .LtE) rLeI := od_b0 op_le
theorem od_gt : OpD W X (compareOp .Gt) rGtI := od_b0 op_gt
theorem od_ge : OpD W X (compareOp .GtE) rGeI := od_b0 op_ge
/-! ### tuples: +, * -/
def rAddT : WO := fun x y Q => match x, y with
  | .tuple xs, .tuple ys => xs.length + ys.length ≤ sizeLine ∧ Q (.tuple (xs ++ ys))
  | _, _ => False
theorem od_addT : OpD W X (binaryOp .Add) rAddT := by
  intro pins s σ H x y v u Q I rx ry h
  obtain ⟨F, dx, dy, P, gd, px, py, h, k⟩ := h
  unfold rAddT at h
  cases dx with
  | tuple xs =>
    cases dy with
    | tuple ys =>
      obtain ⟨hz, p⟩ := h
      obtain ⟨a, as, rfl, ha, ra⟩ := sqT_of gd px
      obtain ⟨b, bs, rfl, hb, rb⟩ := sqT_of gd py
      have la := rpAll_len ra
      have lb := rpAll_len rb
      refine op_catA pins s σ H _ _ v u Q I rx ry ⟨a, b, as, bs, rfl, rfl, ha, hb, by omega, fun e => ?_, fun _ e => ?_, fun _ _ q hq => ?_⟩
      · subst e
        cases ra
        exact k.val gd p py
      · subst e
        cases rb
        rw [List.append_nil] at p
        exact k.val gd p px
      · exact k.laid gd hq p (rp_tupN gd hq (rpAll_app ra rb))
    | _ => exact h.elim
  | _ => exact h.elim
def rMulT : WO := fun x y Q => match x, y with
  | .tuple xs, .int k => (xs ≠ [] ∧ 2 ≤ k ∧ k ≤ 1000 ∧ xs.length ≤ 1000) ∧ Q (.tuple (List.replicate k.toNat xs).flatten)
  | _, _ => False
theorem rpAll_rep {K : PySem.W.Frag} {F : Hp} {vs : List V} {ds : List PyData} (r : RpAll K F vs ds) : ∀ n : Nat, RpAll K F (List.replicate n vs).flatten (List.replicate n ds).flatten
  | 0 => .nil
  | n + 1 => by
    rw [List.replicate_succ, List.replicate_succ, List.flatten_cons, List.flatten_cons]
    exact rpAll_app r (rpAll_rep r n)
theorem od_mulT : OpD W X (binaryOp .Mult) rMulT := by
  intro pins s σ H x y v u Q I rx ry h
  obtain ⟨F, dx, dy, P, gd, px, py, h, k⟩ := h
  unfold rMulT at h
  cases dx with
  | tuple xs =>
    cases dy with
    | int n =>
      obtain ⟨⟨h0, h1, h2, h3⟩, p⟩ := h
      obtain ⟨a, as, rfl, ha, ra⟩ := sqT_of gd px
      have la := rpAll_len ra
      cases py
      refine op_repT pins s σ H _ _ v u Q I rx ry ⟨a, n, as, rfl, rfl, ha, fun e => h0 ?_, h1, h2, by omega, fun q hq => ?_⟩
      · subst e
        cases ra
        rfl
      · exact k.laid gd hq p (rp_tupN gd hq (rpAll_rep ra _))
    | _ => exact h.elim
  | _ => exact h.elim
/-! ### comparisons of data -/
def rEqD : WO := fun x y Q => (SeqAt.shaped x = true ∧ SeqAt.shaped y = true) ∧ Q (.bool (PyData.eqv x y))
def rNeD : WO := fun x y Q => (SeqAt.shaped x = true ∧ SeqAt.shaped y = true) ∧ Q (.bool (!PyData.eqv x y))
/-- operators whose operands may be a slot's own list -/
def OpP (W : Wd) (X : Cx) (f : Value → Value → Sem Value) (r : WO) : Prop :=
  OpR X f fun x y H Q => ∃ F dx dy P, Gd W F H ∧ Shl X.K W F H x dx ∧ Shl X.K W F H y dy ∧ r dx dy P ∧ KD X.K W F H P Q
theorem op_eqP (hu : X.A.units + 64 < cLine) : OpP W X (compareOp .Eq) rEqD := by
  intro pins s σ H x y v u Q I rx ry h
  obtain ⟨F, dx, dy, P, gd, px, py, ⟨⟨h1, h2⟩, p⟩, k⟩ := h
  exact op_eqD hu pins s σ H _ _ v u Q I rx ry ⟨dx, dy, dpH gd px, dpH gd py, h1, h2, k.val gd p (.bl _)⟩
theorem op_neP (hu : X.A.units + 64 < cLine) : OpP W X (compareOp .NotEq) rNeD := by
  intro pins s σ H x y v u Q I rx ry h
  obtain ⟨F, dx, dy, P, gd, px, py, ⟨⟨h1, h2⟩, p⟩, k⟩ := h
  exact op_neD hu pins s σ H _ _ v u Q I rx ry ⟨dx, dy, dpH gd px, dpH gd py, h1, h2, k.val gd p (.bl _)⟩
def flatD : PyData → Bool
  | .none => true
  | .bool _ => true
  | .int _ => true
  | .str _ => true
  | _ => false
theorem flat_v {K : PySem.W.Frag} {F : Hp} {v : V} {d : PyData} (r : Rp K F v d) (f : flatD d = true) : flatV v = true := by
  cases r <;> first | rfl | cases f
theorem eqV_eqv {K : PySem.W.Frag} {F : Hp} {v w : V} {d e : PyData} (r : Rp K F v d) (q : Rp K F w e) (f : flatD d = true) (f' : flatD e = true) : eqV v w = PyData.eqv d e := by
  cases r <;> cases q <;> first | rfl | cases f | cases f' | (unfold eqV PyData.eqv; rfl) | (rename_i a b; cases a <;> rfl)
theorem flat_all {K : PySem.W.Frag} {F : Hp} : ∀ {vs : List V} {ds : List PyData}, RpAll K F vs ds → ds.all flatD = true → vs.all flatV = true
  | [], _, _, _ => rfl
  | _ :: _, _, h, f => by
    cases h with
    | cons h1 h2 =>
      rw [List.all_cons, Bool.and_eq_true] at f ⊢
      exact ⟨flat_v h1 f.1, flat_all h2 f.2⟩
def inD (x : PyData) (ys : List PyData) : Bool := ys.any fun y => PyData.eqv y x
theorem inV_inD {K : PySem.W.Frag} {F : Hp} {x : V} {dx : PyData} (rx : Rp K F x dx) (fx : flatD dx = true) : ∀ {vs : List V} {ds : List PyData}, RpAll K F vs ds → ds.all flatD = true → inV x vs = inD dx ds
  | [], _, h, _ => by cases h; rfl
  | _ :: _, _, h, f => by
    cases h with
    | cons h1 h2 =>
      rw [List.all_cons, Bool.and_eq_true] at f
      unfold inV inD
      rw [List.any_cons, List.any_cons, eqV_eqv h1 rx f.1 fx]
      exact congrArg _ (inV_inD rx fx h2 f.2)
/-- the items of a list or a tuple -/
def itemsD : PyData → Option (List PyData)
  | .list ds => some ds
  | .tuple ds => some ds
  | _ => none
def rInD (neg : Bool) : WO := fun x y Q => match itemsD y with
  | some ds => (flatD x = true ∧ ds.all flatD = true) ∧ Q (.bool (if neg then !inD x ds else inD x ds))
  | none => False
theorem items_sq {K : PySem.W.Frag} {W : Wd} {F H : Hp} (g : Gd W F H) {v : V} {d : PyData} {ds : List PyData} (h : Shl K W F H v d) (e : itemsD d = some ds) : ∃ a xs, v = .ref a ∧ (SqL K H a xs ∨ SqT K H a xs) ∧ RpAll K F xs ds := by
  cases d with
  | list es =>
    cases e
    obtain ⟨a, xs, rfl, r, q⟩ := shl_list g h
    exact ⟨a, xs, rfl, .inl (.inl r), q⟩
  | tuple es =>
    cases e
    obtain ⟨a, xs, rfl, r, q⟩ := sqT_of g (shl_rp h (fun _ z => by cases z))
    exact ⟨a, xs, rfl, .inr r, q⟩
  | _ => cases e
theorem op_inP {neg : Bool} {f : Value → Value → Sem Value} (ho : OpR X f (rIn X.K neg)) : OpP W X f (rInD neg) := by
  intro pins s σ H x y v u Q I rx ry h
  obtain ⟨F, dx, dy, P, gd, px, py, h, k⟩ := h
  unfold rInD at h
  cases e : itemsD dy with
  | none => rw [e] at h; exact h.elim
  | some ds =>
    rw [e] at h
    obtain ⟨⟨h1, h2⟩, p⟩ := h
    obtain ⟨a, xs, rfl, hs, r⟩ := items_sq gd py e
    have px' : Rp X.K F x dx := shl_rp px (fun _ z => by subst z; cases h1)
    refine ho pins s σ H _ _ v u Q I rx ry ⟨a, xs, rfl, hs, flat_v px' h1, flat_all r h2, ?_⟩
    rw [inV_inD px' h1 r h2]
    exact k.val gd p (.bl _)
/-! is None -/
def isNoneD : PyData → Bool
  | .none => true
  | _ => false
theorem isN_v {K : PySem.W.Frag} {F : Hp} {v : V} {d : PyData} (r : Rp K F v d) : decide (v = .non) = isNoneD d := by
  cases r <;> first | rfl | exact decide_eq_false (fun z => by cases z)
def rIsN : WO := fun x y Q => match y with
  | .none => Q (.bool (isNoneD x))
  | _ => False
def rNotN : WO := fun x y Q => match y with
  | .none => Q (.bool (!isNoneD x))
  | _ => False
theorem od_isN : OpD W X (compareOp .Is) rIsN := by
  intro pins s σ H x y v u Q I rx ry h
  obtain ⟨F, dx, dy, P, gd, px, py, h, k⟩ := h
  unfold rIsN at h
  cases dy with
  | none =>
    cases py
    refine op_isN pins s σ H _ _ v u Q I rx ry ⟨rfl, ?_⟩
    rw [isN_v px]
    exact k.val gd h (.bl _)
  | _ => exact h.elim
theorem od_notN : OpD W X (compareOp .IsNot) rNotN := by
  intro pins s σ H x y v u Q I rx ry h
  obtain ⟨F, dx, dy, P, gd, px, py, h, k⟩ := h
  unfold rNotN at h
  cases dy with
  | none =>
    cases py
    refine op_notN pins s σ H _ _ v u Q I rx ry ⟨rfl, ?_⟩
    rw [isN_v px]
    exact k.val gd h (.bl _)
  | _ => exact h.elim
/-! tuples of ints by their order -/
def intsD : List PyData → Option (List Int)
  | [] => some []
  | .int i :: r => (intsD r).map (i :: ·)
  | _ => none
theorem ints_v {K : PySem.W.Frag} {F : Hp} : ∀ {vs : List V} {ds : List PyData} {ns : List Int}, RpAll K F vs ds → intsD ds = some ns → vs = ns.map V.int
  | [], _, ns, h, e => by cases h; cases e; rfl
  | _ :: _, _, ns, h, e => by
    cases h with
    | @cons _ _ d ds h1 h2 =>
      unfold intsD at e
      cases d with
      | int i =>
        cases h1
        cases q : intsD ds with
        | none => simp [q] at e
        | some r =>
          simp [q] at e
          subst e
          rw [List.map_cons, ints_v h2 q]
      | _ => cases e
def rLtT : WO := fun x y Q => match x, y with
  | .tuple xs, .tuple ys => (match intsD xs, intsD ys with
    | some ns, some ms => Q (.bool (HT.lexLt ns ms))
    | _, _ => False)
  | _, _ => False
theorem od_ltT (hu : X.A.units < cLine) : OpD W X (compareOp .Lt) rLtT := by
  intro pins s σ H x y v u Q I rx ry h
  obtain ⟨F, dx, dy, P, gd, px, py, h, k⟩ := h
  unfold rLtT at h
  cases dx with
  | tuple xs =>
    cases dy with
    | tuple ys =>
      obtain ⟨a, as, rfl, ha, ra⟩ := sqT_of gd px
      obtain ⟨b, bs, rfl, hb, rb⟩ := sqT_of gd py
      dsimp only at h
      cases e1 : intsD xs with
      | none => rw [e1] at h; exact h.elim
      | some ns =>
        cases e2 : intsD ys with
        | none => rw [e1, e2] at h; exact h.elim
        | some ms =>
          rw [e1, e2] at h
          have z1 := ints_v ra e1
          have z2 := ints_v rb e2
          subst z1 z2
          exact op_ltT hu pins s σ H _ _ v u Q I rx ry ⟨a, b, ns, ms, rfl, rfl, ha, hb, k.val gd h (.bl _)⟩
    | _ => exact h.elim
  | _ => exact h.elim
theorem OpP.od {f : Value → Value → Sem Value} {r : WO} (h : OpP W X f r) : OpD W X f r := by
  intro pins s σ H x y v u Q I rx ry q
  obtain ⟨F, dx, dy, P, gd, px, py, q⟩ := q
  exact h pins s σ H x y v u Q I rx ry ⟨F, dx, dy, P, gd, .inl px, .inl py, q⟩
/-- either of two: what < means follows the operands -/
theorem OpD.or {f : Value → Value → Sem Value} {r r' : WO} (h : OpD W X f r) (h' : OpD W X f r') : OpD W X f (fun x y Q => r x y Q ∨ r' x y Q) := by
  intro pins s σ H x y v u Q I rx ry q
  obtain ⟨F, dx, dy, P, gd, px, py, q | q, k⟩ := q
  · exact h pins s σ H x y v u Q I rx ry ⟨F, dx, dy, P, gd, px, py, q, k⟩
  · exact h' pins s σ H x y v u Q I rx ry ⟨F, dx, dy, P, gd, px, py, q, k⟩
theorem Shl.grow {K : PySem.W.Frag} {F H F' H' : Hp} {v : V} {d : PyData} (h : Shl K W F H v d) (r : Gr W F H F' H') : Shl K W F' H' v d := by
  rcases h with h | ⟨a, xs, es, rfl, e, hH, q, m⟩
  · exact .inl (rp_mono r.f _ _ h)
  · exact .inr ⟨a, xs, es, rfl, e, r.h _ _ m hH, rpAll_mono r.f _ _ q, m⟩
/-! operands that may be own lists -/
variable {a b c e : Expr} {wa wb wc : WE} {pos : Pos}
theorem t_opP {r : WO} {σ : L2.St} {H : Hp} {Q : VK} {K : PySem.W.Frag} (h : lE K W (wOp r wa wb) σ H Q) :
    tOp (fun x y H Q => ∃ F dx dy P, Gd W F H ∧ Shl K W F H x dx ∧ Shl K W F H y dy ∧ r dx dy P ∧ KD K W F H P Q) (lP K W wa) (lP K W wb) σ H Q := by
  obtain ⟨F, ρ, H0, P, g, ev, h, k⟩ := h
  refine ⟨F, ρ, H0, _, g, ev, h, fun dx hx vx F1 H1 g1 r1 px => ?_⟩
  refine ⟨F1, ρ, H0, _, g1, ev.grow r1, hx, fun dy hy vy F2 H2 g2 r2 py => ?_⟩
  exact ⟨F2, dx, dy, P, g2, px.grow r2, py, hy, (k.then r1).then r2⟩
theorem de_cmpP {op : CmpOp} {r : WO} (ho : OpP W X (compareOp op) r) (ha : DPk W X a wa) (hb : DPk W X b wb) (hm : behindInMarks op b = false) : DE W X (.Compare a [op] [b] pos) (wOp r wa wb) :=
  pe_weak (pe_cmpR ho ha hb hm) fun _ _ _ h => t_opP h
theorem dt_cmpP {op : CmpOp} {r : WO} (ho : OpP W X (compareOp op) r) (ha : DPk W X a wa) (hb : DPk W X b wb) (hm : behindInMarks op b = false) : DT W X (.Compare a [op] [b] pos) (wTst (wOp r wa wb)) :=
  pt_weak (pt_cmpR ho ha hb hm) fun σ H Q h => t_tst (fun _ _ _ => t_opP) h
/-! a < b < c -/
theorem t_chain {r r' : WO} {σ : L2.St} {H : Hp} {Q : VK} {K : PySem.W.Frag} (h : lE K W (wChain r r' wa wb wc) σ H Q) :
    tChain (fun x y H Q => ∃ F dx dy P, Gd W F H ∧ Rp K F x dx ∧ Rp K F y dy ∧ r dx dy P ∧ KD K W F H P Q) (fun x y H Q => ∃ F dx dy P, Gd W F H ∧ Rp K F x dx ∧ Rp K F y dy ∧ r' dx dy P ∧ KD K W F H P Q)
      (lE K W wa) (lE K W wb) (lE K W wc) σ H Q := by
  obtain ⟨F, ρ, H0, P, g, ev, h, k⟩ := h
  refine ⟨F, ρ, H0, _, g, ev, h, fun dx hx vx F1 H1 g1 r1 px => ?_⟩
  refine ⟨F1, ρ, H0, _, g1, ev.grow r1, hx, fun dy hy vy F2 H2 g2 r2 py => ?_⟩
  refine ⟨F2, dx, dy, _, g2, rp_mono r2.f _ _ px, py, hy, fun dz hz vz F3 H3 g3 r3 pz => ?_⟩
  cases dz with
  | bool c =>
    cases pz
    refine ⟨c, rfl, ?_⟩
    cases c with
    | true =>
      refine ⟨F3, ρ, H0, _, g3, (ev.grow (r1.trans r2)).grow r3, hz, fun du hu vu F4 H4 g4 r4 pu => ?_⟩
      exact ⟨F4, dy, du, P, g4, rp_mono (r3.trans r4).f _ _ py, pu, hu, ((k.then (r1.trans r2)).then r3).then r4⟩
    | false => exact ((k.then (r1.trans r2)).then r3).val g3 hz (.bl false)
  | _ => exact hz.elim
theorem de_chain {op op' : CmpOp} {r r' : WO} (ho : OpD W X (compareOp op) r) (ho' : OpD W X (compareOp op') r') (ha : DE W X a wa) (hb : DE W X b wb) (hc : DE W X c wc)
    (hm : lastMarks [op, op'] [b, c] = false := by with_unfolding_all rfl) : DE W X (.Compare a [op, op'] [b, c] pos) (wChain r r' wa wb wc) := pe_weak (pe_chain ho ho' ha hb hc hm) fun _ _ _ h => t_chain h
theorem dt_chain {op op' : CmpOp} {r r' : WO} (ho : OpD W X (compareOp op) r) (ho' : OpD W X (compareOp op') r') (ha : DE W X a wa) (hb : DE W X b wb) (hc : DE W X c wc)
    (hm : lastMarks [op, op'] [b, c] = false := by with_unfolding_all rfl) : DT W X (.Compare a [op, op'] [b, c] pos) (wTst (wChain r r' wa wb wc)) := pt_weak (pt_chain ho ho' ha hb hc hm) fun _ _ _ h => t_tst (fun _ _ _ => t_chain) h
/-! ### argument lists -/
abbrev WP := En → (List PyData → Prop) → Prop
def lAd (K : PySem.W.Frag) (W : Wd) (w : WP) : TA := fun σ H Q => ∃ F ρ H0 P, Gd W F H ∧ EnvOk K W H0 F H σ ρ ∧ w ρ P ∧ ∀ ds, P ds → ∀ vs F' H', Gd W F' H' → Gr W F H F' H' → RpAll K F' vs ds → Q vs H'
def lAp (K : PySem.W.Frag) (W : Wd) (w : WP) : TA := fun σ H Q => ∃ F ρ H0 P, Gd W F H ∧ EnvOk K W H0 F H σ ρ ∧ w ρ P ∧ ∀ ds, P ds → ∀ vs F' H', Gd W F' H' → Gr W F H F' H' → Paired (Shl K W F' H') vs ds → Q vs H'
abbrev DAd (W : Wd) (X : Cx) (es : List Expr) (w : WP) : Prop := PA X es (lAd X.K W w)
abbrev DAp (W : Wd) (X : Cx) (es : List Expr) (w : WP) : Prop := PA X es (lAp X.K W w)
def wNil : WP := fun _ Q => Q []
def wCons (we : WE) (w : WP) : WP := fun ρ Q => we ρ fun d => w ρ fun ds => Q (d :: ds)
/-- *e among the items -/
def wStar (we : WE) (w : WP) : WP := fun ρ Q => we ρ fun d => match itemsD d with
  | some es => w ρ fun ds => Q (es ++ ds)
  | none => False
variable {we : WE} {w : WP} {es : List Expr}
theorem da_nil : DAd W X [] wNil := pa_weak pa_nil fun σ H Q h => by
  obtain ⟨F, ρ, H0, P, g, ev, h, k⟩ := h
  exact k [] h [] F H g Gr.refl .nil
theorem da_cons (he : DE W X e we) (hr : DAd W X es w) (hs : starEach (e :: es) X.env = (false, eval e X.env) :: starEach es X.env := by rfl) : DAd W X (e :: es) (wCons we w) := pa_weak (pa_cons he hr hs) fun σ H Q h => by
  obtain ⟨F, ρ, H0, P, g, ev, h, k⟩ := h
  refine ⟨F, ρ, H0, _, g, ev, h, fun dx hx vx F1 H1 g1 r1 px => ?_⟩
  exact ⟨F1, ρ, H0, _, g1, ev.grow r1, hx, fun ds hd vs F2 H2 g2 r2 ps => k _ hd _ F2 H2 g2 (r1.trans r2) (.cons (rp_mono r2.f _ _ px) ps)⟩
theorem da_star {p : Pos} (he : DPk W X e we) (hr : DAd W X es w) (hs : starEach (.Starred e p :: es) X.env = (true, eval e X.env) :: starEach es X.env := by rfl) : DAd W X (.Starred e p :: es) (wStar we w) := pa_weak (StX.pa_star he hr hs) fun σ H Q h => by
  obtain ⟨F, ρ, H0, P, g, ev, h, k⟩ := h
  refine ⟨F, ρ, H0, _, g, ev, h, fun dx hx vx F1 H1 g1 r1 px => ?_⟩
  cases e : itemsD dx with
  | none => rw [e] at hx; exact hx.elim
  | some ds0 =>
    rw [e] at hx
    obtain ⟨a, xs, rfl, hs, rx⟩ := items_sq g1 px e
    exact ⟨a, xs, rfl, hs.symm, F1, ρ, H0, _, g1, ev.grow r1, hx, fun ds hd vs F2 H2 g2 r2 ps => k _ hd _ F2 H2 g2 (r1.trans r2) (rpAll_app (rpAll_mono r2.f _ _ rx) ps)⟩
theorem dp_nil : DAp W X [] wNil := pa_weak pa_nil fun σ H Q h => by
  obtain ⟨F, ρ, H0, P, g, ev, h, k⟩ := h
  exact k [] h [] F H g Gr.refl .nil
theorem dp_cons (he : DPk W X e we) (hr : DAp W X es w) (hs : starEach (e :: es) X.env = (false, eval e X.env) :: starEach es X.env := by rfl) : DAp W X (e :: es) (wCons we w) := pa_weak (pa_cons he hr hs) fun σ H Q h => by
  obtain ⟨F, ρ, H0, P, g, ev, h, k⟩ := h
  refine ⟨F, ρ, H0, _, g, ev, h, fun dx hx vx F1 H1 g1 r1 px => ?_⟩
  exact ⟨F1, ρ, H0, _, g1, ev.grow r1, hx, fun ds hd vs F2 H2 g2 r2 ps => k _ hd _ F2 H2 g2 (r1.trans r2) (.cons (px.grow r2) ps)⟩
/-! ### displays -/
def wTup (w : WP) : WE := fun ρ Q => w ρ fun ds => ds.length ≤ sizeLine ∧ Q (.tuple ds)
theorem de_tup {x1} (h : DAd W X es w) : DE W X (.Tuple es x1 pos) (wTup w) := pe_weak (pe_tup h) fun σ H Q h => by
  obtain ⟨F, ρ, H0, P, g, ev, h, k⟩ := h
  refine ⟨F, ρ, H0, _, g, ev, h, fun ds hd vs F1 H1 g1 r1 ps => ⟨by rw [rpAll_len ps]; exact hd.1, fun p hp => ?_⟩⟩
  exact (k.then r1).laid g1 hp hd.2 (rp_tupN g1 hp ps)
def wLst (w : WP) : WP := fun ρ Q => w ρ fun ds => ds.length ≤ sizeLine ∧ Q ds
theorem df_lst (h : DAd W X es w) : DF W X (.List es pos) (wLst w) := pe_weak (pe_lst h) fun σ H Q h => by
  obtain ⟨F, ρ, H0, P, g, ev, h, k⟩ := h
  refine ⟨F, ρ, H0, _, g, ev, h, fun ds hd vs F1 H1 g1 r1 ps => ⟨by rw [rpAll_len ps]; exact hd.1, fun p hp => ?_⟩⟩
  exact k ds hd.2 p vs F1 _ (g1.free (g1.fnone hp) (g1.notM hp)) (r1.trans (Gr.new hp)) (r1.none_of hp) upd_same (g1.fnone hp) ps
/-! ### lists put together -/
def wCat (wa wb : WE) : WP := fun ρ Q => wa ρ fun x => wb ρ fun y => match x, y with
  | .list xs, .list ys => xs.length + ys.length ≤ sizeLine ∧ Q (xs ++ ys)
  | _, _ => False
theorem op_catR : OpR X (binaryOp .Add) fun x y H Q => ∃ l b xs zs, x = .ref l ∧ y = .ref b ∧ Rd H l (.lst xs) ∧ Rd H b (.lst zs) ∧ xs.length + zs.length ≤ sizeLine ∧ ∀ p, H p = none → Q (.ref p) (upd H p (.lst (xs ++ zs))) := by
  intro pins s σ H x y v u Q I rx ry h
  obtain ⟨l, b, xs, zs, rfl, rfl, hl, hb, hz, q⟩ := h
  cases rx
  cases ry
  obtain ⟨_, its, n, r1, len1, e1⟩ := rd_lst I hl
  obtain ⟨_, jts, m, r2, len2, e2⟩ := rd_lst I hb
  have hsum : its.toArray.size + jts.toArray.size ≤ sizeLine := by
    rw [List.size_toArray, List.size_toArray]
    omega
  refine PySem.P.add_list e1 e2 ?_ hsum
  rw [show its.toArray ++ jts.toArray = (its ++ jts).toArray by simp]
  refine ⟨.ref _, _, I.lnew (t' := s.toks) (r1.append r2) ?_, rfl, q _ I.fresh⟩
  rw [List.length_append]
  exact hz
theorem df_cat (ha : DPk W X a wa) (hb : DPk W X b wb) : DF W X (.BinOp a .Add b pos) (wCat wa wb) := pe_weak (pe_op op_catR ha hb) fun σ H Q h => by
  obtain ⟨F, ρ, H0, P, g, ev, h, k⟩ := h
  refine ⟨F, ρ, H0, _, g, ev, h, fun dx hx vx F1 H1 g1 r1 px => ?_⟩
  refine ⟨F1, ρ, H0, _, g1, ev.grow r1, hx, fun dy hy vy F2 H2 g2 r2 py => ?_⟩
  cases dx with
  | list xs =>
    cases dy with
    | list ys =>
      obtain ⟨hz, p⟩ := hy
      obtain ⟨la, as, rfl, ha, ra⟩ := shl_list g2 (px.grow r2)
      obtain ⟨lb, bs, rfl, hb, rb⟩ := shl_list g2 py
      have e1 := rpAll_len ra
      have e2 := rpAll_len rb
      refine ⟨la, lb, as, bs, rfl, rfl, ha, hb, by omega, fun q hq => ?_⟩
      have r12 := r1.trans r2
      exact k _ p q _ F2 _ (g2.free (g2.fnone hq) (g2.notM hq)) (r12.trans (Gr.new hq)) (r12.none_of hq) upd_same (g2.fnone hq) (rpAll_app ra rb)
    | _ => exact hy.elim
  | _ =>
    cases dy with
    | _ => exact hy.elim
/-! ### an item, a slice -/
def rIxD : WO := fun x y Q => match itemsD x, y with
  | some ds, .int i => ∃ d, atI ds i = some d ∧ Q d
  | _, _ => False
theorem at_rp {K : PySem.W.Frag} {F : Hp} {vs : List V} {ds : List PyData} (r : RpAll K F vs ds) {i : Int} {d : PyData} (h : atI ds i = some d) : ∃ v, atI vs i = some v ∧ Rp K F v d := by
  unfold atI at h ⊢
  have e := rpAll_len r
  rw [e]
  cases q : ixN ds.length i with
  | none => rw [q] at h; cases h
  | some j =>
    rw [q] at h
    have h' : ds[j]? = some d := h
    have hj : j < ds.length := (List.getElem?_eq_some_iff.mp h').1
    have hj' : j < vs.length := by omega
    refine ⟨vs[j], ?_, rpAll_get j r (List.getElem?_eq_getElem hj') h'⟩
    show vs[j]? = some vs[j]
    exact List.getElem?_eq_getElem hj'
theorem de_ix (ha : DPk W X a wa) (hb : DE W X b wb) (hs : PlainIx b) : DE W X (.Subscript a b pos) (wOp rIxD wa wb) := pe_weak (pe_ix (ix_list.or ix_tup) ha hb hs) fun σ H Q h => by
  obtain ⟨F, ρ, H0, P, g, ev, h, k⟩ := h
  refine ⟨F, ρ, H0, _, g, ev, h, fun dx hx vx F1 H1 g1 r1 px => ?_⟩
  refine ⟨F1, ρ, H0, _, g1, ev.grow r1, hx, fun dy hy vy F2 H2 g2 r2 py => ?_⟩
  unfold rIxD at hy
  cases e : itemsD dx with
  | none => rw [e] at hy; exact hy.elim
  | some ds =>
    rw [e] at hy
    cases dy with
    | int i =>
      obtain ⟨d, hd, p⟩ := hy
      obtain ⟨a, xs, rfl, hs, rx⟩ := items_sq g2 (px.grow r2) e
      obtain ⟨v, hv, rv⟩ := at_rp rx hd
      cases py
      have kk := (k.then (r1.trans r2)).val g2 p rv
      rcases hs with hs | hs
      · exact .inl ⟨a, xs, i, v, rfl, rfl, hs, hv, kk⟩
      · exact .inr ⟨a, xs, i, v, rfl, rfl, hs, hv, kk⟩
    | _ => exact hy.elim
/-- t[lo:hi] of a tuple, the bounds written -/
def cutD (xs : List PyData) (lo hi : Option Int) : List PyData := (xs.drop (HT.sIx xs.length 0 lo)).take (HT.sIx xs.length xs.length hi - HT.sIx xs.length 0 lo)
def wCut (wa : WE) (lo hi : Option Int) : WE := fun ρ Q => wa ρ fun x => match x with
  | .tuple ds => Q (.tuple (cutD ds lo hi))
  | _ => False
/-- a written bound -/
def tLit (o : Option Int) : TO := fun _ H Q => Q o H
theorem po_lit {i : Int} {j p} : PO X (some (.Constant (.int i) j p)) (tLit (some i)) := ⟨fun pins s σ H Q I h => (po_some pe_int).run pins s σ H Q I ⟨i, rfl, h⟩⟩
theorem po_no : PO X none (tLit none) := po_none
theorem de_cut {l h : Option Expr} {lo hi : Option Int} {p2 : Pos} (ha : DE W X a wa) (hl : PO X l (tLit lo)) (hu : PO X h (tLit hi)) : DE W X (.Subscript a (.Slice l h none p2) pos) (wCut wa lo hi) := pe_weak (pe_slice sl_tupA ha hl hu) fun σ H Q h => by
  obtain ⟨F, ρ, H0, P, g, ev, h, k⟩ := h
  refine ⟨F, ρ, H0, _, g, ev, h, fun dx hx vx F1 H1 g1 r1 px => ?_⟩
  cases dx with
  | tuple ds =>
    obtain ⟨a, xs, rfl, hs, rx⟩ := sqT_of g1 px
    have e := rpAll_len rx
    have rc : RpAll X.K F1 (cutV xs lo hi) (cutD ds lo hi) := by
      unfold cutV cutD
      rw [e]
      exact rpAll_take _ (rpAll_drop _ rx)
    refine ⟨a, xs, rfl, hs, fun z => ?_, fun _ q hq => ?_⟩
    · have ec : cutD ds lo hi = ds := by
        unfold cutD
        rw [← e, z.1, z.2, List.drop_zero, Nat.sub_zero]
        exact List.take_of_length_le (by omega)
      dsimp only at hx
      rw [ec] at hx
      exact (k.then r1).val g1 hx px
    · exact (k.then r1).laid g1 hq hx (rp_tupN g1 hq rc)
  | _ => exact hx.elim
end
end Qd
set_option maxHeartbeats 2000000
namespace Qd
open PySem PySem.Spec PyProof.Rows L2

/-! ### environments changed -/
theorem Gr.here {W : Wd} {F0 H0 F H : Hp} (g : Gr W F0 H0 F H) : Gr W F H0 F H := ⟨fun _ _ e => e, fun _ _ => rfl, g.h, g.k⟩
theorem Gr.then' {W : Wd} {F0 H0 F H F' H' : Hp} (a : Gr W F0 H0 F H) (b : Gr W F H0 F' H') : Gr W F0 H0 F' H' := ⟨fun c o e => b.f c o (a.f c o e), fun c e => (b.n c e).trans (a.n c e), b.h, b.k⟩
theorem getD_set {α : Type} (l : List α) (i j : Nat) (x d : α) : (l.set i x).getD j d = if i = j ∧ j < l.length then x else l.getD j d := by
  rw [List.getD_eq_getElem?_getD, List.getD_eq_getElem?_getD, List.getElem?_set]
  by_cases h : i = j
  · subst h
    by_cases h2 : i < l.length
    · simp [h2]
    · have h3 : l.length ≤ i := by omega
      simp [h2, List.getElem?_eq_none h3]
  · simp [h]
section
variable {K : PySem.W.Frag} {W : Wd} {H0 F H : Hp} {σ : L2.St} {ρ : En}
/-- a slot takes a new value that no other slot owns -/
theorem EnvOk.set (e : EnvOk K W H0 F H σ ρ) (i : Nat) {v : V} {b : Bd} (h : SlotOk K W H0 F H (some v) b) (u : Own b → ∀ a j, v = .ref a → Own (ρ.getD j .no) → σ.getD j none ≠ some (.ref a)) : EnvOk K W H0 F H (σ.set i (some v)) (ρ.set i b) := by
  refine ⟨by rw [List.length_set, List.length_set]; exact e.len, fun j => ?_, fun j k a hjk oj ok ej ek => ?_⟩
  · rw [getD_set, getD_set, e.len]
    by_cases q : i = j ∧ j < ρ.length
    · rw [if_pos q, if_pos q]
      exact h
    · rw [if_neg q, if_neg q]
      exact e.slot j
  · rw [getD_set] at oj ok ej ek
    rw [e.len] at ej ek
    by_cases q : i = j ∧ j < ρ.length
    · rw [if_pos q] at oj ej
      have q2 : ¬ (i = k ∧ k < ρ.length) := fun z => hjk (q.1.symm.trans z.1)
      rw [if_neg q2] at ok ek
      exact u oj a k (Option.some.inj ej) ok ek
    · rw [if_neg q] at oj ej
      by_cases q2 : i = k ∧ k < ρ.length
      · rw [if_pos q2] at ok ek
        exact u ok a j (Option.some.inj ek) oj ej
      · rw [if_neg q2] at ok ek
        exact e.uniq j k a hjk oj ok ej ek
theorem EnvOk.setV (e : EnvOk K W H0 F H σ ρ) (i : Nat) {v : V} {d : PyData} (h : Rp K F v d) : EnvOk K W H0 F H (σ.set i (some v)) (ρ.set i (.val d)) :=
  e.set i (b := .val d) ⟨v, rfl, h⟩ fun o => o.elim
/-- an owned address is not new -/
theorem EnvOk.owned (e : EnvOk K W H0 F H σ ρ) {j : Nat} {a : Addr} (o : Own (ρ.getD j .no)) (q : σ.getD j none = some (.ref a)) : H a ≠ none ∧ F a = none ∧ ¬ W.M a ∧ H0 a = none := by
  have s := e.slot j
  cases z : ρ.getD j .no with
  | lst ds =>
    rw [z] at s
    obtain ⟨b, xs, e1, e2, e3, e4, e5, e6⟩ := s
    rw [q] at e1
    cases e1
    exact ⟨by rw [e2]; simp, e4, e5, e6⟩
  | dK ds =>
    rw [z] at s
    obtain ⟨b, xs, e1, e2, e3, e4, e5, e6⟩ := s
    rw [q] at e1
    cases e1
    exact ⟨by rw [e2]; simp, e4, e5, e6⟩
  | dT ds =>
    rw [z] at s
    obtain ⟨b, xs, e1, e2, e3, e4, e5, e6⟩ := s
    rw [q] at e1
    cases e1
    exact ⟨by rw [e2]; simp, e4, e5, e6⟩
  | _ => rw [z] at o; exact o.elim
/-- the object of an owned slot is changed -/
theorem EnvOk.chg (e : EnvOk K W H0 F H σ ρ) {i : Nat} {a : Addr} {o : HO} {b : Bd} (ho : Own (ρ.getD i .no)) (hi : σ.getD i none = some (.ref a)) (hb : Own b) (h : SlotOk K W H0 F (upd H a o) (some (.ref a)) b) :
    EnvOk K W H0 F (upd H a o) σ (ρ.set i b) := by
  have hl : i < ρ.length := by
    by_cases q : i < ρ.length
    · exact q
    · exfalso
      rw [List.getD_eq_getElem?_getD, List.getElem?_eq_none (by omega)] at ho
      exact ho
  refine ⟨by rw [List.length_set]; exact e.len, fun j => ?_, fun j k c hjk oj ok ej ek => ?_⟩
  · rw [getD_set]
    by_cases q : i = j
    · subst q
      rw [if_pos ⟨rfl, hl⟩, hi]
      exact h
    · rw [if_neg (fun z => q z.1)]
      have s := e.slot j
      have ne : ∀ {c : Addr}, Own (ρ.getD j .no) → σ.getD j none = some (.ref c) → c ≠ a := fun {c} oj ej z => by
        subst z
        exact e.uniq i j c q ho oj hi ej
      cases z : ρ.getD j .no with
      | lst ds =>
        have oj : Own (ρ.getD j .no) := by rw [z]; exact trivial
        rw [z] at s
        obtain ⟨c, xs, e1, e2, e3⟩ := s
        exact ⟨c, xs, e1, by rw [upd_ne (ne oj e1)]; exact e2, e3⟩
      | dK ds =>
        have oj : Own (ρ.getD j .no) := by rw [z]; exact trivial
        rw [z] at s
        obtain ⟨c, xs, e1, e2, e3⟩ := s
        exact ⟨c, xs, e1, by rw [upd_ne (ne oj e1)]; exact e2, e3⟩
      | dT ds =>
        have oj : Own (ρ.getD j .no) := by rw [z]; exact trivial
        rw [z] at s
        obtain ⟨c, xs, e1, e2, e3⟩ := s
        exact ⟨c, xs, e1, by rw [upd_ne (ne oj e1)]; exact e2, e3⟩
      | val d => rw [z] at s; exact s
      | st => rw [z] at s; exact s
      | no => exact trivial
  · have own' : ∀ j, Own ((ρ.set i b).getD j .no) → Own (ρ.getD j .no) := fun j o => by
      rw [getD_set] at o
      by_cases q : i = j ∧ j < ρ.length
      · rw [← q.1]
        exact ho
      · rw [if_neg q] at o
        exact o
    exact e.uniq j k c hjk (own' j oj) (own' k ok) ej ek
end
theorem ImpE.nx' {K : PySem.W.Frag} {W : Wd} {H0 F0 : Hp} {E : WEnds} {D : Ends} (i : ImpE K W H0 F0 E D) {N : En → Prop} {N' : L2.St → Hp → Prop} (h : ∀ ρ, N ρ → ∀ σ F H, Gd W F H → Gr W F0 H0 F H → EnvOk K W H0 F H σ ρ → N' σ H) :
    ImpE K W H0 F0 { E with nx := N } { D with nx := N' } := ⟨h, i.bk, i.ct, i.rt⟩

section
variable {W : Wd} {H0 : Hp} {X : Cx} {a b c e : Expr} {st : Stmt} {sts sts' : List Stmt} {we : WE} {pos : Pos} {w w2 : WS} {wt : WT}
/-! ### statements -/
def wNext : WS := fun E ρ => E.nx ρ
def wSeq (w w2 : WS) : WS := fun E ρ => w { E with nx := w2 E } ρ
theorem ds_nil : DSs W H0 X [] wNext := pss_weak pss_nil fun D σ H h => by
  obtain ⟨F0, F, ρ, E, g, r, ev, h, im⟩ := h
  exact im.nx ρ h σ F H g r ev
theorem ds_cons (h1 : DS W H0 X st w) (h2 : DSs W H0 X sts w2) : DSs W H0 X (st :: sts) (wSeq w w2) := pss_weak (pss_cons h1 h2) fun D σ H h => by
  obtain ⟨F0, F, ρ, E, g, r, ev, h, im⟩ := h
  exact ⟨F0, F, ρ, _, g, r, ev, h, im.nx' fun ρ' q σ' F' H' g' r' ev' => ⟨F0, F', ρ', E, g', r', ev', q, im⟩⟩
theorem ds_one (h1 : DS W H0 X st w) : DSs W H0 X [st] w := pss_one h1
def wNever : WS := fun _ _ => False
theorem ds_never : DS W H0 X st wNever := ps_weak ps_never fun D σ H h => by
  obtain ⟨F0, F, ρ, E, g, r, ev, h, im⟩ := h
  exact h
theorem dss_never : DSs W H0 X sts wNever := pss_weak pss_never fun D σ H h => by
  obtain ⟨F0, F, ρ, E, g, r, ev, h, im⟩ := h
  exact h
def wIfS (t : WT) (w w2 : WS) : WS := fun E ρ => t ρ fun c => if c = true then w E ρ else w2 E ρ
theorem ds_if (hc : DT W X c wt) (h1 : DSs W H0 X sts w) (h2 : DSs W H0 X sts' w2) : DS W H0 X (.If c sts sts' pos) (wIfS wt w w2) := ps_weak (ps_if hc h1 h2) fun D σ H h => by
  obtain ⟨F0, F, ρ, E, g, r, ev, h, im⟩ := h
  refine ⟨F, ρ, H0, _, g, ev, h, fun b q F1 H1 g1 r1 => ?_⟩
  cases b with
  | true => exact ⟨F0, F1, ρ, E, g1, r.trans r1, ev.grow r1, q, im⟩
  | false => exact ⟨F0, F1, ρ, E, g1, r.trans r1, ev.grow r1, q, im⟩
def wRet (we : WE) : WS := fun E ρ => we ρ E.rt
theorem ds_ret (he : DE W X e we) : DS W H0 X (.Return (some e) pos) (wRet we) := ps_weak (ps_ret he) fun D σ H h => by
  obtain ⟨F0, F, ρ, E, g, r, ev, h, im⟩ := h
  exact ⟨F, ρ, H0, _, g, ev, h, fun d q v F1 H1 g1 r1 rp => im.rt d q v F1 H1 g1 (r.trans r1) rp⟩
/-- return of the slot's own list -/
def wRetO (i : Nat) : WS := fun E ρ => match ρ.getD i .no with
  | .lst ds => E.rt (.list ds)
  | _ => False
theorem ds_retO (i : Nat) {x : Str} {p : Pos} (hN : X.N[i]? = some x := by rfl) (hv : Vis X.env.scope x := by first | exact Or.inl rfl | exact Or.inr (Or.inl rfl) | exact Or.inr (Or.inr rfl)) (hd : (x == ("__debug__" : Str)) = false := by decide)
    (hcd : (x == ("__classdict__" : Str)) = false := by decide) : DS W H0 X (.Return (some (.Name x p)) pos) (wRetO i) := ps_weak (ps_ret (pe_var hN hv hd hcd)) fun D σ H h => by
  obtain ⟨F0, F, ρ, E, g, r, ev, h, im⟩ := h
  unfold wRetO at h
  have q := ev.slot i
  cases z : ρ.getD i .no with
  | lst ds =>
    rw [z] at h q
    obtain ⟨a, xs, e, hH, rp, fn, nm, h0⟩ := q
    have fF : ∀ b u, F b = some u → upd F a (.lst xs) b = some u := fun b u q => by
      rw [upd_ne (fun z => by rw [z, fn] at q; cases q)]
      exact q
    refine ⟨_, getD_some e, im.rt _ h _ (upd F a (.lst xs)) H ⟨fun b u q => ?_, fun b m => ?_, g.mh, W.stab _ _ _ _ g.j fF (fun _ _ => rfl), fun b ys q => fF b _ (g.tp b ys q)⟩ ⟨fun b u q => fF b u (r.f b u q), fun b q => ?_, r.h, r.k⟩ (.lst (.inl upd_same) (rpAll_mono fF _ _ rp))⟩
    · by_cases z : b = a
      · rw [z, upd_same] at q
        rw [z, hH]
        exact q
      · rw [upd_ne z] at q
        exact g.sub b u q
    · rw [upd_ne (fun z => nm (by rw [← z]; exact m))]
      exact g.mf b m
    · rw [upd_ne (fun z => q (by rw [z]; exact h0))]
      exact r.n b q
  | _ => rw [z] at h; exact h.elim
/-! targets -/
abbrev WG := PyData → En → (En → Prop) → Prop
/-- some vs: nothing but the slots vs is touched -/
def SR (o : Option (List Nat)) (σ σ' : L2.St) : Prop := match o with
  | none => True
  | some vs => wipe σ' vs = wipe σ vs
theorem SR.refl (o : Option (List Nat)) (σ : L2.St) : SR o σ σ := by cases o <;> first | trivial | rfl
theorem SR.trans {o : Option (List Nat)} {σ σ1 σ2 : L2.St} (a : SR o σ σ1) (b : SR o σ1 σ2) : SR o σ σ2 := by
  cases o with
  | none => trivial
  | some vs => exact Eq.trans b a
theorem wipe_set {i : Nat} {v : Option V} : ∀ (vs : List Nat) (σ : L2.St), i ∈ vs → wipe (σ.set i v) vs = wipe σ vs
  | [], _, h => absurd h List.not_mem_nil
  | w :: vs, σ, h => by
    unfold L2.wipe
    by_cases e : i ∈ vs
    · rw [wipe_set vs σ e]
    · have ew : i = w := by
        rcases List.mem_cons.mp h with z | z
        · exact z
        · exact absurd z e
      subst ew
      have key : ∀ (vs : List Nat), i ∉ vs → wipe (σ.set i v) vs = (wipe σ vs).set i v := fun vs => by
        induction vs with
        | nil => intro _; rfl
        | cons u us ih =>
          intro hn
          unfold L2.wipe
          rw [ih (fun z => hn (List.mem_cons_of_mem _ z))]
          exact List.set_comm _ _ (fun z => hn (by rw [z]; exact List.mem_cons_self))
      rw [key vs e, List.set_set]
def SIn (o : Option (List Nat)) (i : Nat) : Prop := match o with
  | none => True
  | some vs => i ∈ vs
theorem SR.set {o : Option (List Nat)} {σ : L2.St} {i : Nat} {v : Option V} (h : SIn o i) : SR o σ (σ.set i v) := by
  cases o with
  | none => trivial
  | some vs => exact wipe_set vs σ h
def lG (K : PySem.W.Frag) (W : Wd) (o : Option (List Nat)) (g : WG) : TG := fun v σ H Q => ∃ F ρ H0 d P, Gd W F H ∧ EnvOk K W H0 F H σ ρ ∧ Rp K F v d ∧ g d ρ P ∧ ∀ ρ', P ρ' → ∀ σ', EnvOk K W H0 F H σ' ρ' → SR o σ σ' → Q σ' H
def lGs (K : PySem.W.Frag) (W : Wd) (o : Option (List Nat)) (g : List PyData → En → (En → Prop) → Prop) : TGs := fun vs σ H Q => ∃ F ρ H0 ds P, Gd W F H ∧ EnvOk K W H0 F H σ ρ ∧ RpAll K F vs ds ∧ g ds ρ P ∧ ∀ ρ', P ρ' → ∀ σ', EnvOk K W H0 F H σ' ρ' → SR o σ σ' → Q σ' H
abbrev DG (W : Wd) (X : Cx) (o : Option (List Nat)) (tg : Expr) (g : WG) : Prop := PG X tg (lG X.K W o g)
abbrev DGs (W : Wd) (X : Cx) (o : Option (List Nat)) (tg : List Expr) (g : List PyData → En → (En → Prop) → Prop) : Prop := PGs X tg (lGs X.K W o g)
theorem pg_weak {t t' : TG} (h : PG X e t) (hw : ∀ v σ H Q, t' v σ H Q → t v σ H Q) : PG X e t' := ⟨fun pins s σ H v u Q I r q => h.run pins s σ H v u Q I r (hw _ _ _ _ q)⟩
theorem pgs_weak {es : List Expr} {t t' : TGs} (h : PGs X es t) (hw : ∀ v σ H Q, t' v σ H Q → t v σ H Q) : PGs X es t' := ⟨fun pins s σ H v u Q I r q => h.run pins s σ H v u Q I r (hw _ _ _ _ q)⟩
variable {o : Option (List Nat)}
def wgName (i : Nat) : WG := fun d ρ Q => Q (ρ.set i (.val d))
theorem dg_name {i : Nat} {x : Str} (hN : X.N.Nodup) (hi : X.N[i]? = some x) (hx : Loc X.env.scope x) (ho : SIn o i := by first | exact trivial | (show _ ∈ _; decide)) (hf : X.fn x = true ∨ X.env.scope.names.lookup x = some .local := by first | exact .inl rfl | exact .inr rfl | assumption) : DG W X o (.Name x pos) (wgName i) :=
  pg_weak (pg_name hN hi hx hf) fun v σ H Q h => by
    obtain ⟨F, ρ, H0, d, P, g, ev, rp, h, k⟩ := h
    exact k _ h _ (ev.setV i rp) (SR.set ho)
def wgNil : List PyData → En → (En → Prop) → Prop := fun ds ρ Q => match ds with
  | [] => Q ρ
  | _ => False
def wgCons (g : WG) (gs : List PyData → En → (En → Prop) → Prop) : List PyData → En → (En → Prop) → Prop := fun ds ρ Q => match ds with
  | d :: r => g d ρ fun ρ' => gs r ρ' Q
  | [] => False
theorem dgs_nil : DGs W X o [] wgNil := pgs_weak pgs_nil fun v σ H Q h => by
  obtain ⟨F, ρ, H0, ds, P, g, ev, rp, h, k⟩ := h
  cases ds with
  | nil =>
    cases rp
    exact ⟨rfl, k _ h _ ev (SR.refl o σ)⟩
  | cons _ _ => exact h.elim
theorem dgs_cons {es : List Expr} {g : WG} {gs : List PyData → En → (En → Prop) → Prop} (h1 : DG W X o e g) (h2 : DGs W X o es gs) (hs : (assignEach (e :: es) X.env).map (·.2) = assign e X.env :: (assignEach es X.env).map (·.2) := by rfl) : DGs W X o (e :: es) (wgCons g gs) :=
  pgs_weak (pgs_cons h1 h2 hs) fun v σ H Q h => by
    obtain ⟨F, ρ, H0, ds, P, gd, ev, rp, h, k⟩ := h
    cases ds with
    | nil => exact h.elim
    | cons d r =>
      cases rp with
      | cons r1 r2 => exact ⟨_, _, rfl, F, ρ, H0, d, _, gd, ev, r1, h, fun ρ' q σ' ev' s' => ⟨F, ρ', H0, r, P, gd, ev', r2, q, fun ρ2 q2 σ2 ev2 s2 => k ρ2 q2 σ2 ev2 (s'.trans s2)⟩⟩
def wgTup (n : Nat) (gs : List PyData → En → (En → Prop) → Prop) : WG := fun d ρ Q => match d with
  | .tuple ds => ds.length = n ∧ gs ds ρ Q
  | _ => False
theorem dg_tup {es : List Expr} {k n : Nat} {gs : List PyData → En → (En → Prop) → Prop} (hc : X.calm = true) (h : DGs W X o es gs)
    (hn : (assignEach es X.env).length = n := by rfl) (hst : (assignEach es X.env).findIdx? (·.1) = none := by rfl) : DG W X o (.Tuple es k pos) (wgTup n gs) := pg_weak (pg_tup hc h hn hst) fun v σ H Q h => by
  obtain ⟨F, ρ, H0, d, P, g, ev, rp, h, k⟩ := h
  cases d with
  | tuple ds =>
    obtain ⟨a, xs, rfl, hs, rx⟩ := sqT_of g rp
    exact ⟨a, xs, rfl, hs, (rpAll_len rx).trans h.1, F, ρ, H0, ds, P, g, ev, rx, h.2, k⟩
  | _ => exact h.elim
/-! assignments -/
def wAsg (we : WE) (g : WG) : WS := fun E ρ => we ρ fun d => g d ρ E.nx
theorem t_asg {g : WG} {D : Ends} {σ : L2.St} {H : Hp} {K : PySem.W.Frag} (h : lS K W H0 (wAsg we g) D σ H) : tAsg (lE K W we) (lG K W none g) D σ H := by
  obtain ⟨F0, F, ρ, E, gd, r, ev, h, im⟩ := h
  refine ⟨F, ρ, H0, _, gd, ev, h, fun d q v F1 H1 g1 r1 rp => ?_⟩
  exact ⟨F1, ρ, H0, d, _, g1, ev.grow r1, rp, q, fun ρ' q' σ' ev' _ => im.nx ρ' q' σ' F1 H1 g1 (r.trans r1) ev'⟩
theorem ds_asg {tg : Expr} {g : WG} (he : DE W X e we) (hg : DG W X none tg g) (hs : swapsWithSole [tg] e pos.line X.env = pure false := by rfl) (hw : swappedStores [tg] e X.env = pure none := by rfl)
    (h1 : (assignEach [tg] X.env).map (·.2) = [assign tg X.env] := by rfl) : DS W H0 X (.Assign [tg] e pos) (wAsg we g) := ps_weak (ps_asg he hg hs hw h1) fun D σ H h => t_asg h
def wSet (i : Nat) (we : WE) : WS := fun E ρ => we ρ fun d => E.nx (ρ.set i (.val d))
theorem t_set {i : Nat} {D : Ends} {σ : L2.St} {H : Hp} {K : PySem.W.Frag} (h : lS K W H0 (wSet i we) D σ H) : tAsg (lE K W we) (gName i) D σ H := by
  obtain ⟨F0, F, ρ, E, gd, r, ev, h, im⟩ := h
  exact ⟨F, ρ, H0, _, gd, ev, h, fun d q v F1 H1 g1 r1 rp => im.nx _ q _ F1 H1 g1 (r.trans r1) ((ev.grow r1).setV i rp)⟩
theorem ds_set {i : Nat} {x : Str} {pos' : Pos} (hN : X.N.Nodup) (hi : X.N[i]? = some x) (hx : Loc X.env.scope x) (he : DE W X e we) (hs : swapsWith e (some (.Name x pos')) pos.line X.env = pure false := by rfl) (hf : X.fn x = true ∨ X.env.scope.names.lookup x = some .local := by first | exact .inl rfl | exact .inr rfl | assumption) :
    DS W H0 X (.Assign [.Name x pos'] e pos) (wSet i we) := ps_weak (ps_set hN hi hx he hs hf) fun D σ H h => t_set h
/-- the name takes a list of its own -/
def wSetO (i : Nat) (wl : WP) : WS := fun E ρ => wl ρ fun ds => E.nx (ρ.set i (.lst ds))
theorem t_setO {i : Nat} {wl : WP} {D : Ends} {σ : L2.St} {H : Hp} {K : PySem.W.Frag} (h : lS K W H0 (wSetO i wl) D σ H) : tAsg (lF K W wl) (gName i) D σ H := by
  obtain ⟨F0, F, ρ, E, gd, r, ev, h, im⟩ := h
  refine ⟨F, ρ, H0, _, gd, ev, h, fun ds q a xs F1 H1 g1 r1 hn ha hf rp => im.nx _ q _ F1 H1 g1 (r.trans r1) ((ev.grow r1).set i (b := .lst ds) ⟨a, xs, rfl, ha, rp, hf, gd.notM hn, r.none_of hn⟩ fun _ c j hc oj ej => ?_)⟩
  cases hc
  exact (ev.owned oj ej).1 hn
theorem ds_setO {i : Nat} {x : Str} {pos' : Pos} {wl : WP} (hN : X.N.Nodup) (hi : X.N[i]? = some x) (hx : Loc X.env.scope x) (he : DF W X e wl) (hs : swapsWith e (some (.Name x pos')) pos.line X.env = pure false := by rfl) (hf : X.fn x = true ∨ X.env.scope.names.lookup x = some .local := by first | exact .inl rfl | exact .inr rfl | assumption) :
    DS W H0 X (.Assign [.Name x pos'] e pos) (wSetO i wl) := ps_weak (ps_set hN hi hx he hs hf) fun D σ H h => t_setO h
/-! a, b = x, y of plain local names -/
def wPar (i j : Nat) (wa wb : WE) : WS := fun E ρ => wa ρ fun x => wb ρ fun y => E.nx ((ρ.set i (.val x)).set j (.val y))
theorem ds_par {i j : Nat} {x y : Str} {wa wb : WE} {px py pt : Pos} {kt k2 pt2} (hc : X.calm = true) (hN : X.N.Nodup) (hi : X.N[i]? = some x) (hj : X.N[j]? = some y) (hij : i ≠ j)
    (hx : X.env.scope.names.lookup x = some .local) (hy : X.env.scope.names.lookup y = some .local) (ha : DE W X a wa) (hb : DE W X b wb)
    (hw : swappedStores [.Tuple [.Name x px, .Name y py] kt pt] (.Tuple [a, b] k2 pt2) X.env = pure (some [x, y]))
    (hs : swapsWithSole [.Tuple [.Name x px, .Name y py] kt pt] (.Tuple [a, b] k2 pt2) pos.line X.env = pure false := by rfl)
    (hs1 : starEach [a, b] X.env = (false, eval a X.env) :: starEach [b] X.env := by rfl) (hs2 : starEach [b] X.env = (false, eval b X.env) :: starEach [] X.env := by rfl) :
    DS W H0 X (.Assign [.Tuple [.Name x px, .Name y py] kt pt] (.Tuple [a, b] k2 pt2) pos) (wPar i j wa wb) :=
  ps_weak (ps_par hc hN hi hj hij hx hy (pa_cons ha (pa_cons hb pa_nil hs2) hs1) hw hs) fun D σ H h => by
    obtain ⟨F0, F, ρ, E, gd, r, ev, h, im⟩ := h
    refine ⟨F, ρ, H0, _, gd, ev, h, fun d q v F1 H1 g1 r1 rp => ?_⟩
    refine ⟨F1, ρ, H0, _, g1, ev.grow r1, q, fun d2 q2 v2 F2 H2 g2 r2 rp2 => ?_⟩
    exact ⟨v, v2, rfl, im.nx _ q2 _ F2 H2 g2 ((r.trans r1).trans r2) ((((ev.grow r1).grow r2).setV i (rp_mono r2.f _ _ rp)).setV j rp2)⟩
/-- both take lists of their own -/
def wParOO (i j : Nat) (wa wb : WP) : WS := fun E ρ => wa ρ fun xs => wb ρ fun ys => E.nx ((ρ.set i (.lst xs)).set j (.lst ys))
theorem ds_parOO {i j : Nat} {x y : Str} {wa wb : WP} {px py pt : Pos} {kt k2 pt2} (hc : X.calm = true) (hN : X.N.Nodup) (hi : X.N[i]? = some x) (hj : X.N[j]? = some y) (hij : i ≠ j)
    (hx : X.env.scope.names.lookup x = some .local) (hy : X.env.scope.names.lookup y = some .local) (ha : DF W X a wa) (hb : DF W X b wb)
    (hw : swappedStores [.Tuple [.Name x px, .Name y py] kt pt] (.Tuple [a, b] k2 pt2) X.env = pure (some [x, y]))
    (hs : swapsWithSole [.Tuple [.Name x px, .Name y py] kt pt] (.Tuple [a, b] k2 pt2) pos.line X.env = pure false := by rfl)
    (hs1 : starEach [a, b] X.env = (false, eval a X.env) :: starEach [b] X.env := by rfl) (hs2 : starEach [b] X.env = (false, eval b X.env) :: starEach [] X.env := by rfl) :
    DS W H0 X (.Assign [.Tuple [.Name x px, .Name y py] kt pt] (.Tuple [a, b] k2 pt2) pos) (wParOO i j wa wb) :=
  ps_weak (ps_par hc hN hi hj hij hx hy (pa_cons ha (pa_cons hb pa_nil hs2) hs1) hw hs) fun D σ H h => by
    obtain ⟨F0, F, ρ, E, gd, r, ev, h, im⟩ := h
    refine ⟨F, ρ, H0, _, gd, ev, h, fun ds q p xs F1 H1 g1 r1 hn ha hf rp => ?_⟩
    refine ⟨F1, ρ, H0, _, g1, ev.grow r1, q, fun ds2 q2 p2 xs2 F2 H2 g2 r2 hn2 ha2 hf2 rp2 => ?_⟩
    have nm : ¬ W.M p := gd.notM hn
    have hp1 : H1 p ≠ none := by rw [ha]; simp
    have ne : p ≠ p2 := fun z => hp1 (by rw [z]; exact hn2)
    have ev2 := (ev.grow r1).grow r2
    refine ⟨_, _, rfl, im.nx _ q2 _ F2 H2 g2 ((r.trans r1).trans r2) ?_⟩
    have ev3 := ev2.set i (v := .ref p) (b := .lst ds) ⟨p, xs, rfl, r2.h _ _ nm ha, rpAll_mono r2.f _ _ rp, (r2.n p hp1).trans hf, nm, r.none_of hn⟩ fun _ c k hc ok ek => by
      cases hc
      exact (ev.owned ok ek).1 hn
    refine ev3.set j (v := .ref p2) (b := .lst ds2) ⟨p2, xs2, rfl, ha2, rp2, hf2, g1.notM hn2, r.none_of (r1.none_of hn2)⟩ fun _ c k hc ok ek => ?_
    cases hc
    rw [getD_set] at ok ek
    rw [ev.len] at ek
    by_cases z : i = k ∧ k < ρ.length
    · rw [if_pos z] at ek
      exact ne (V.ref.inj (Option.some.inj ek))
    · rw [if_neg z] at ok ek
      exact ((ev.grow r1).owned ok ek).1 hn2
/-! append, extend, pop of a slot's own list -/
def wApp (i : Nat) (we : WE) : WS := fun E ρ => match ρ.getD i .no with
  | .lst ds => we ρ fun d => ds.length < sizeLine ∧ E.nx (ρ.set i (.lst (ds ++ [d])))
  | _ => False
theorem own_lst {K : PySem.W.Frag} {F H : Hp} {σ : L2.St} {ρ : En} (ev : EnvOk K W H0 F H σ ρ) {i : Nat} {ds : List PyData} (z : ρ.getD i .no = .lst ds) :
    ∃ a xs, σ.getD i none = some (.ref a) ∧ H a = some (.lst xs) ∧ RpAll K F xs ds ∧ F a = none ∧ ¬ W.M a ∧ H0 a = none := by
  have q := ev.slot i
  rw [z] at q
  exact q
theorem own_put {K : PySem.W.Frag} {F H : Hp} {σ : L2.St} {ρ : En} (ev : EnvOk K W H0 F H σ ρ) {i : Nat} {ds ds' : List PyData} {a : Addr} {xs' : List V} (z : ρ.getD i .no = .lst ds) (hi : σ.getD i none = some (.ref a)) (rp : RpAll K F xs' ds') (hf : F a = none) (m : ¬ W.M a) (h0 : H0 a = none) :
    EnvOk K W H0 F (upd H a (.lst xs')) σ (ρ.set i (.lst ds')) :=
  ev.chg (by rw [z]; exact trivial) hi trivial ⟨a, xs', rfl, upd_same, rp, hf, m, h0⟩
theorem ds_app (i : Nat) {x : Str} {p1 p2 p3 : Pos} (he : DE W X e we) (hN : X.N[i]? = some x := by rfl) (hv : Vis X.env.scope x := by first | exact Or.inl rfl | exact Or.inr (Or.inl rfl) | exact Or.inr (Or.inr rfl)) (hd : (x == ("__debug__" : Str)) = false := by decide)
    (hcd : (x == ("__classdict__" : Str)) = false := by decide)
    (hbase : attributeBase (.Name x p1) "append" X.env (eval (.Name x p1) X.env) = eval (.Name x p1) X.env := by rfl)
    (hfew : ((backTo p3 (starEach [e] X.env)).all (fun x => !x.1) && (backToKw p3 (keywordEach [] X.env)).all (fun x => x.1.isSome) && decide ([e].length + ([] : List Keyword).length + (if ([] : List Keyword).isEmpty then 0 else 1) < 30)) = true := by rfl)
    (hline : (p2.endLine == p3.line) = true := by rfl) (hse : starEach [e] X.env = (false, eval e X.env) :: starEach [] X.env := by rfl)
    (hs : swapsWith (.Call (.Attribute (.Name x p1) "append" p2) [e] [] p3) none pos.line X.env = pure false := by rfl) :
    DS W H0 X (.Expr (.Call (.Attribute (.Name x p1) "append" p2) [e] [] p3) pos) (wApp i we) :=
  ps_weak (ps_expr (pe_bm PySem.F.plainAttrs_list PySem.F.slot_list_append PySem.F.type_list_append mt_append (pe_var hN hv hd hcd) (pa_cons he pa_nil hse) hbase hfew hline hse rfl) hs) fun D σ H h => by
  obtain ⟨F0, F, ρ, E, gd, r, ev, h, im⟩ := h
  unfold wApp at h
  cases z : ρ.getD i .no with
  | lst ds =>
    rw [z] at h
    obtain ⟨a, xs, e1, e2, e3, e4, e5, e6⟩ := own_lst ev z
    refine ⟨_, getD_some e1, .inl ⟨rfl, _, SqL.of e2⟩, F, ρ, H0, _, gd, ev, h, fun d q v F1 H1 g1 r1 rp => ?_⟩
    obtain ⟨hz, q⟩ := q
    obtain ⟨a', xs', e1', e2', e3', e4', e5', e6'⟩ := own_lst (ev.grow r1) z
    rw [e1] at e1'
    cases e1'
    refine ⟨a, xs', v, rfl, rfl, e2', by rw [rpAll_len e3']; exact hz, im.nx _ q _ F1 _ (g1.free e4' e5') ((r.trans r1).chg e6') ?_⟩
    exact own_put (ev.grow r1) z e1 (rpAll_app e3' (.cons rp .nil)) e4' e5' e6'
  | _ => rw [z] at h; exact h.elim
def wExt (i : Nat) (wl : WP) : WS := fun E ρ => match ρ.getD i .no with
  | .lst ds => wl ρ fun es => ds.length + es.length ≤ sizeLine ∧ E.nx (ρ.set i (.lst (ds ++ es)))
  | _ => False
theorem ds_ext (i : Nat) {x : Str} {p1 p2 p3 : Pos} {wl : WP} (he : DF W X e wl) (hN : X.N[i]? = some x := by rfl) (hv : Vis X.env.scope x := by first | exact Or.inl rfl | exact Or.inr (Or.inl rfl) | exact Or.inr (Or.inr rfl)) (hd : (x == ("__debug__" : Str)) = false := by decide)
    (hcd : (x == ("__classdict__" : Str)) = false := by decide)
    (hbase : attributeBase (.Name x p1) "extend" X.env (eval (.Name x p1) X.env) = eval (.Name x p1) X.env := by rfl)
    (hfew : ((backTo p3 (starEach [e] X.env)).all (fun x => !x.1) && (backToKw p3 (keywordEach [] X.env)).all (fun x => x.1.isSome) && decide ([e].length + ([] : List Keyword).length + (if ([] : List Keyword).isEmpty then 0 else 1) < 30)) = true := by rfl)
    (hline : (p2.endLine == p3.line) = true := by rfl) (hse : starEach [e] X.env = (false, eval e X.env) :: starEach [] X.env := by rfl)
    (hs : swapsWith (.Call (.Attribute (.Name x p1) "extend" p2) [e] [] p3) none pos.line X.env = pure false := by rfl) :
    DS W H0 X (.Expr (.Call (.Attribute (.Name x p1) "extend" p2) [e] [] p3) pos) (wExt i wl) :=
  ps_weak (ps_expr (pe_bm PySem.F.plainAttrs_list PySem.F.slot_list_extend PySem.F.type_list_extend mt_extend (pe_var hN hv hd hcd) (pa_cons he pa_nil hse) hbase hfew hline hse rfl) hs) fun D σ H h => by
  obtain ⟨F0, F, ρ, E, gd, r, ev, h, im⟩ := h
  unfold wExt at h
  cases z : ρ.getD i .no with
  | lst ds =>
    rw [z] at h
    obtain ⟨a, xs, e1, e2, e3, e4, e5, e6⟩ := own_lst ev z
    refine ⟨_, getD_some e1, .inl ⟨rfl, _, SqL.of e2⟩, F, ρ, H0, _, gd, ev, h, fun es q b ys F1 H1 g1 r1 hn hb hf rp => ?_⟩
    obtain ⟨hz, q⟩ := q
    obtain ⟨a', xs', e1', e2', e3', e4', e5', e6'⟩ := own_lst (ev.grow r1) z
    rw [e1] at e1'
    cases e1'
    refine ⟨a, b, xs', ys, rfl, rfl, e2', hb, by rw [rpAll_len e3', rpAll_len rp]; exact hz, im.nx _ q _ F1 _ (g1.free e4' e5') ((r.trans r1).chg e6') ?_⟩
    exact own_put (ev.grow r1) z e1 (rpAll_app e3' rp) e4' e5' e6'
  | _ => rw [z] at h; exact h.elim
/-- target = name.pop() -/
def wPop (i : Nat) (g : WG) : WS := fun E ρ => match ρ.getD i .no with
  | .lst ds => ∃ d r, ds = r ++ [d] ∧ g d (ρ.set i (.lst r)) E.nx
  | _ => False
theorem pop_t (i : Nat) {g : WG} {D : Ends} {σ : L2.St} {H : Hp} {K : PySem.W.Frag} (h : lS K W H0 (wPop i g) D σ H) : tAsg (tBM0 K "list" rPop (tVar i)) (lG K W none g) D σ H := by
  obtain ⟨F0, F, ρ, E, gd, r, ev, h, im⟩ := h
  unfold wPop at h
  cases z : ρ.getD i .no with
  | lst ds =>
    rw [z] at h
    obtain ⟨d, ds', rfl, q⟩ := h
    obtain ⟨a, xs, e1, e2, e3, e4, e5, e6⟩ := own_lst ev z
    have hl := rpAll_len e3
    rw [List.length_append, List.length_singleton] at hl
    obtain ⟨v, hv⟩ : ∃ v, xs[xs.length - 1]? = some v := ⟨xs[xs.length - 1]'(by omega), List.getElem?_eq_getElem _⟩
    have hd : (ds' ++ [d])[xs.length - 1]? = some d := by
      rw [hl, Nat.add_sub_cancel, List.getElem?_append_right (Nat.le_refl _), Nat.sub_self]
      rfl
    have rp := rpAll_get _ e3 hv hd
    have rd : RpAll K F xs.dropLast ds' := by
      have q := rpAll_take ds'.length e3
      rw [List.take_left' rfl] at q
      rw [List.dropLast_eq_take, hl, Nat.add_sub_cancel]
      exact q
    refine ⟨_, getD_some e1, .inl ⟨rfl, _, SqL.of e2⟩, a, xs, v, rfl, rfl, e2, hv, ?_⟩
    exact ⟨F, _, H0, d, _, gd.free e4 e5, own_put ev z e1 rd e4 e5 e6, rp, q, fun ρ' q' σ' ev' _ => im.nx ρ' q' σ' F _ (gd.free e4 e5) (r.chg e6) ev'⟩
  | _ => rw [z] at h; exact h.elim
theorem ds_pop (i : Nat) {tg : Expr} {g : WG} {x : Str} {p1 p2 p3 : Pos} (hg : DG W X none tg g) (hN : X.N[i]? = some x := by rfl) (hv : Vis X.env.scope x := by first | exact Or.inl rfl | exact Or.inr (Or.inl rfl) | exact Or.inr (Or.inr rfl)) (hd : (x == ("__debug__" : Str)) = false := by decide)
    (hcd : (x == ("__classdict__" : Str)) = false := by decide)
    (hbase : attributeBase (.Name x p1) "pop" X.env (eval (.Name x p1) X.env) = eval (.Name x p1) X.env := by rfl) (hline : (p2.endLine == p3.line) = true := by rfl)
    (hs : swapsWithSole [tg] (.Call (.Attribute (.Name x p1) "pop" p2) [] [] p3) pos.line X.env = pure false := by rfl) (hw : swappedStores [tg] (.Call (.Attribute (.Name x p1) "pop" p2) [] [] p3) X.env = pure none := by rfl)
    (h1 : (assignEach [tg] X.env).map (·.2) = [assign tg X.env] := by rfl) :
    DS W H0 X (.Assign [tg] (.Call (.Attribute (.Name x p1) "pop" p2) [] [] p3) pos) (wPop i g) :=
  ps_weak (ps_asg (pe_bm0 PySem.F.plainAttrs_list PySem.F.slot_list_pop PySem.F.type_list_pop mt_pop (pe_var hN hv hd hcd) hbase hline) hg hs hw h1) fun D σ H h => pop_t i h
/-! ### while -/
def wWhile (c : WT) (tb : WS) : WS := fun E ρ => ∃ I : Nat → En → Prop, (∃ m, I m ρ) ∧ ∀ m ρ, I m ρ → c ρ fun b => if b = true then tb { E with nx := fun ρ' => ∃ m', m' < m ∧ I m' ρ', ct := fun ρ' => ∃ m', m' < m ∧ I m' ρ', bk := E.nx } ρ else E.nx ρ
theorem ds_while (hp : PassesOwn (model X.prog X.w) X.A X.env X.xe) (hc : DT W X c wt) (hb : DSs W H0 X sts w) : DS W H0 X (.While c sts [] pos) (wWhile wt w) := ps_weak (ps_while hp hc hb) fun D σ H h => by
  obtain ⟨F0, F, ρ, E, gd, r, ev, ⟨I, ⟨m0, h0⟩, turn⟩, im⟩ := h
  refine ⟨fun m σ H => ∃ F ρ, Gd W F H ∧ Gr W F0 H0 F H ∧ EnvOk X.K W H0 F H σ ρ ∧ I m ρ, ⟨m0, F, ρ, gd, r, ev, h0⟩, ?_⟩
  rintro m σ1 H1 ⟨F1, ρ1, g1, r1, ev1, i1⟩
  refine ⟨F1, ρ1, H0, _, g1, ev1, turn m ρ1 i1, fun b q F2 H2 g2 r2 => ?_⟩
  cases b with
  | false => exact im.nx _ q _ F2 H2 g2 (r1.trans r2) (ev1.grow r2)
  | true =>
    refine ⟨fun σ H => ∃ m', m' < m ∧ ∃ F ρ, Gd W F H ∧ Gr W F0 H0 F H ∧ EnvOk X.K W H0 F H σ ρ ∧ I m' ρ, fun _ _ z => z, F0, F2, ρ1, _, g2, r1.trans r2, ev1.grow r2, q, ?_⟩
    refine ⟨fun ρ' ⟨m', hm, i'⟩ σ' F' H' g' r' ev' => ⟨m', hm, F', ρ', g', r', ev', i'⟩, im.nx, fun ρ' ⟨m', hm, i'⟩ σ' F' H' g' r' ev' => ⟨m', hm, F', ρ', g', r', ev', i'⟩, im.rt⟩
/-! ### what is walked -/
structure ItD (K : PySem.W.Frag) (W : Wd) (F1 : Hp) (J : It) (ds : List PyData) : Prop where
  go : ∀ i F H, Gd W F H → (∀ b o, F1 b = some o → F b = some o) → i < ds.length → J.go i H
  stop : ∀ F H, Gd W F H → (∀ b o, F1 b = some o → F b = some o) → J.stop ds.length H
  yld : ∀ i d F H x H', Gd W F H → (∀ b o, F1 b = some o → F b = some o) → ds[i]? = some d → J.yld i H x H' → ∃ F', Gd W F' H' ∧ Gr W F H F' H' ∧ Rp K F' x d
def lI (K : PySem.W.Frag) (W : Wd) (w : WP) : TI := fun σ H R => ∃ F ρ H0 P, Gd W F H ∧ EnvOk K W H0 F H σ ρ ∧ w ρ P ∧ ∀ ds, P ds → ∀ J F1 H1, Gd W F1 H1 → Gr W F H F1 H1 → ItD K W F1 J ds → R J H1
abbrev DI (W : Wd) (X : Cx) (tg iter : Expr) (w : WP) : Prop := PI X tg iter (lI X.K W w)
theorem pi_weak {tg iter : Expr} {t t' : TI} (h : PI X tg iter t) (hw : ∀ σ H Q, t' σ H Q → t σ H Q) : PI X tg iter t' := ⟨fun pins s σ H Q I q => h.run pins s σ H Q I (hw _ _ _ q)⟩
/-- for -/
def wForL (g : WG) (tb : WS) : List PyData → WS
  | [] => fun E ρ => E.nx ρ
  | d :: ds => fun E ρ => g d ρ fun ρ' => tb { E with nx := wForL g tb ds E, ct := wForL g tb ds E, bk := E.nx } ρ'
def wFor (wl : WP) (g : WG) (tb : WS) : WS := fun E ρ => wl ρ fun ds => wForL g tb ds E ρ
theorem ds_for {tg iter : Expr} {wl : WP} {g : WG} (hp : PassesOwn (model X.prog X.w) X.A X.env X.xe) (hc : X.calm = true) (hi : DI W X tg iter wl) (hg : DG W X none tg g) (hb : DSs W H0 X sts w)
    (hs : ∀ x, foldedSetIterable iter X.env x = pure x := by intro _; rfl) : DS W H0 X (.For tg iter sts [] pos) (wFor wl g w) := ps_weak (ps_for hp hc hi hg hb hs) fun D σ H h => by
  obtain ⟨F0, F, ρ, E, gd, r, ev, h, im⟩ := h
  refine ⟨F, ρ, H0, _, gd, ev, h, fun ds q J F1 H1 g1 r1 it => ?_⟩
  refine ⟨fun i m σ H => i + m = ds.length ∧ ∃ F ρ, Gd W F H ∧ Gr W F0 H0 F H ∧ (∀ b o, F1 b = some o → F b = some o) ∧ EnvOk X.K W H0 F H σ ρ ∧ wForL g w (ds.drop i) E ρ, ⟨ds.length, by omega, F1, ρ, g1, r.trans r1, fun _ _ z => z, ev.grow r1, q⟩, ?_⟩
  rintro i m σ2 H2 ⟨hm, F2, ρ2, g2, r2, f2, ev2, q2⟩
  by_cases hi : i < ds.length
  · have hd : ds.drop i = ds[i] :: ds.drop (i + 1) := List.drop_eq_getElem_cons hi
    rw [hd] at q2
    refine .inr ⟨it.go i F2 H2 g2 f2 hi, fun σ H => ∃ F ρ, Gd W F H ∧ Gr W F0 H0 F H ∧ (∀ b o, F1 b = some o → F b = some o) ∧ EnvOk X.K W H0 F H σ ρ ∧ wForL g w (ds.drop (i + 1)) E ρ, fun σ' H' z => ⟨m - 1, by omega, by omega, z⟩, fun x H' y => ?_⟩
    obtain ⟨F3, g3, r3, rp⟩ := it.yld i ds[i] F2 H2 x H' g2 f2 (List.getElem?_eq_getElem hi) y
    have r23 := r2.trans r3
    have f13 : ∀ b o, F1 b = some o → F3 b = some o := fun b o z => r3.f b o (f2 b o z)
    refine ⟨F3, ρ2, H0, ds[i], _, g3, ev2.grow r3, rp, q2, fun ρ4 q4 σ4 ev4 _ => ⟨F3, F3, ρ4, _, g3, r23.here, ev4, q4, ?_⟩⟩
    refine ⟨fun ρ' q' σ' F' H' g' r' ev' => ⟨F', ρ', g', r23.then' r', fun b o z => r'.f b o (f13 b o z), ev', q'⟩, fun ρ' q' σ' F' H' g' r' ev' => im.nx ρ' q' σ' F' H' g' (r23.then' r') ev',
      fun ρ' q' σ' F' H' g' r' ev' => ⟨F', ρ', g', r23.then' r', fun b o z => r'.f b o (f13 b o z), ev', q'⟩, fun d q' v F' H' g' r' rp' => im.rt d q' v F' H' g' (r23.then' r') rp'⟩
  · have hl : i = ds.length := by omega
    subst hl
    rw [List.drop_length] at q2
    exact .inl ⟨it.stop F2 H2 g2 f2, im.nx _ q2 _ F2 H2 g2 r2 ev2⟩
end
end Qd
set_option maxHeartbeats 2000000
namespace Qd
open PySem PySem.Spec PyProof.Rows L2

section
variable {W : Wd} {H0 : Hp} {X : Cx} {a b c e : Expr} {we wa wb : WE} {pos : Pos}
/-! ### sources of loops -/
theorem itd_walk {K : PySem.W.Frag} {F1 : Hp} {J : It} {ds : List PyData} {xs : List V} {G : Hp → Prop} (w : Walk J xs.length G (YAt xs)) (r : RpAll K F1 xs ds)
    (hG : ∀ F H, Gd W F H → (∀ b o, F1 b = some o → F b = some o) → G H) : ItD K W F1 J ds := by
  have e := rpAll_len r
  refine ⟨fun i F H g f hi => w.goes i H (by omega) (hG F H g f), fun F H g f => by rw [← e]; exact w.stops H (hG F H g f), fun i d F H x H' g f hd y => ?_⟩
  have hi : i < xs.length := by
    rw [e]
    exact (List.getElem?_eq_some_iff.mp hd).1
  obtain ⟨rfl, hx⟩ := w.yields i H x H' hi (hG F H g f) y
  exact ⟨F, g, Gr.refl, rp_mono f _ _ (rpAll_get i r hx hd)⟩
/-- a new pair each -/
theorem itd_pair {K : PySem.W.Frag} {F1 : Hp} {J : It} {ds : List PyData} {n : Nat} {fx fy : Nat → Option V} {G : Hp → Prop} (w : Walk J n G (YPair fx fy)) (hn : ds.length = n)
    (hG : ∀ F H, Gd W F H → (∀ b o, F1 b = some o → F b = some o) → G H)
    (hr : ∀ i d x y F, (∀ b o, F1 b = some o → F b = some o) → ds[i]? = some d → fx i = some x → fy i = some y → ∃ dx dy, d = .tuple [dx, dy] ∧ Rp K F x dx ∧ Rp K F y dy) : ItD K W F1 J ds := by
  refine ⟨fun i F H g f hi => w.goes i H (by omega) (hG F H g f), fun F H g f => by rw [hn]; exact w.stops H (hG F H g f), fun i d F H v H' g f hd y => ?_⟩
  have hi : i < n := by
    rw [← hn]
    exact (List.getElem?_eq_some_iff.mp hd).1
  obtain ⟨T, x, z, rfl, hT, rfl, hx, hz⟩ := w.yields i H v H' hi (hG F H g f) y
  obtain ⟨dx, dz, rfl, rx, rz⟩ := hr i d x z F f hd hx hz
  obtain ⟨g', r'⟩ := g.laid (o := .tup [x, z]) hT
  exact ⟨_, g', r', rp_tupN g hT (.cons rx (.cons rz .nil))⟩
theorem pi_seq {tg l : Expr} {tl : TE} (hl : PE X l tl) : PI X tg l (fun σ H R => tl σ H fun x H1 => ∃ a, x = .ref a ∧ ((∃ xs, SqL X.K H1 a xs) ∧ R (Itl X.K a) H1 ∨ (∃ xs, SqT X.K H1 a xs) ∧ R (Itt X.K a) H1)) := by
  refine ⟨fun pins s σ H R I h => ?_⟩
  refine thn (hl.run pins s σ H _ I h) fun v s1 ⟨x, H1, I1, r1, q1⟩ => ?_
  obtain ⟨a, rfl, q1⟩ := q1
  cases r1
  have fresh : ∀ b ∈ [s1.heap.objs.size], FpOk X pins H1 b := fun b hb => by
    obtain rfl : b = s1.heap.objs.size := by simpa using hb
    exact I1.fpOk (Nat.le_refl _) (I1.hok.fresh (Nat.le_refl _))
  rcases q1 with ⟨⟨xs, hq⟩, q⟩ | ⟨⟨xs, hq⟩, q⟩
  · obtain ⟨its, _, p, _⟩ := I1.list hq
    refine wpAny_pyIter_list p.isList ⟨_, _, _, _, H1, rfl, I1.kept (t' := s1.toks) fun b o e => Heap.get?_push_of_some _ e, turn_list a _, ⟨_, Heap.get?_push_size _ rfl, rfl, rfl⟩, fresh, q⟩
  · obtain ⟨its, _, p, _⟩ := I1.tuple hq
    refine wpAny_pyIter_tuple (show s1.heap.IsTuple a its.toArray from p) ⟨_, _, _, _, H1, rfl, I1.kept (t' := s1.toks) fun b o e => Heap.get?_push_of_some _ e, turn_tuple a _, ⟨_, Heap.get?_push_size _ rfl, rfl, rfl⟩, fresh, q⟩
/-- a list or a tuple -/
def wSeqI (we : WE) : WP := fun ρ Q => we ρ fun d => match itemsD d with
  | some ds => Q ds
  | none => False
theorem rp_items {K : PySem.W.Frag} {F H : Hp} (g : Gd W F H) {v : V} {d : PyData} {ds : List PyData} (h : Rp K F v d) (e : itemsD d = some ds) : ∃ a xs, v = .ref a ∧ RpAll K F xs ds ∧ ((∀ F' H', Gd W F' H' → (∀ b o, F b = some o → F' b = some o) → SqL K H' a xs) ∨ (∀ F' H', Gd W F' H' → (∀ b o, F b = some o → F' b = some o) → SqT K H' a xs)) := by
  cases h with
  | lst hs ha =>
    cases e
    exact ⟨_, _, rfl, ha, .inl fun F' H' g' f => .inl (rd_mono g'.sub (rd_mono f hs))⟩
  | tup hs ha =>
    cases e
    exact ⟨_, _, rfl, ha, .inr fun F' H' g' f => SqT.of (g'.sub _ _ (f _ _ hs))⟩
  | _ => cases e
theorem di_seq {tg : Expr} (he : DE W X e we) : DI W X tg e (wSeqI we) := pi_weak (pi_seq he) fun σ H R h => by
  obtain ⟨F, ρ, H0, P, g, ev, h, k⟩ := h
  refine ⟨F, ρ, H0, _, g, ev, h, fun d q v F1 H1 g1 r1 rp => ?_⟩
  cases e : itemsD d with
  | none => rw [e] at q; exact q.elim
  | some ds =>
    rw [e] at q
    obtain ⟨a, xs, rfl, rx, s⟩ := rp_items g1 rp e
    refine ⟨a, rfl, ?_⟩
    rcases s with s | s
    · exact .inl ⟨⟨xs, s F1 H1 g1 fun _ _ z => z⟩, k ds q _ F1 H1 g1 r1 (itd_walk walk_list rx fun F' H' g' f => s F' H' g' f)⟩
    · exact .inr ⟨⟨xs, s F1 H1 g1 fun _ _ z => z⟩, k ds q _ F1 H1 g1 r1 (itd_walk walk_tup rx fun F' H' g' f => s F' H' g' f)⟩
/-- range(n) -/
def rngD (n : Nat) : List PyData := (List.range n).map fun (i : Nat) => .int (i : Int)
def wRng (we : WE) : WP := fun ρ Q => we ρ fun d => match d with
  | .int n => (-(2 ^ 62) ≤ n ∧ n < 2 ^ 62) ∧ Q (rngD n.toNat)
  | _ => False
theorem itd_range {K : PySem.W.Frag} {F1 : Hp} (n : Nat) : ItD K W F1 (Itr 0 n) (rngD n) := by
  have hl : (rngD n).length = n := by unfold rngD; rw [List.length_map, List.length_range]
  refine ⟨fun i F H g f hi => by rw [hl] at hi; exact hi, fun F H g f => by rw [hl]; exact Nat.le_refl n, fun i d F H x H' g f hd y => ?_⟩
  obtain ⟨rfl, rfl⟩ := y
  have hi : i < n := by
    have q := (List.getElem?_eq_some_iff.mp hd).1
    rw [hl] at q
    exact q
  have ed : d = .int (i : Int) := by
    unfold rngD at hd
    rw [List.getElem?_map, List.getElem?_range hi] at hd
    exact (Option.some.inj hd).symm
  subst ed
  rw [show (0 : Int) + ((i : Nat) : Int) = (i : Int) by omega]
  exact ⟨F, g, Gr.refl, .int _⟩
theorem di_rng {tg : Expr} {p : Pos} (he : DE W X e we) (hg : Gl X "range") (hm : X.mg "range" = none) (hs : starEach [e] X.env = [(false, eval e X.env)] := by rfl) : DI W X tg (.Call (.Name "range" p) [e] [] pos) (wRng we) :=
  pi_weak (pi_range1 hg hm (pa_cons he pa_nil hs) hs) fun σ H R h => by
    obtain ⟨F, ρ, H0, P, g, ev, h, k⟩ := h
    refine ⟨F, ρ, H0, _, g, ev, h, fun d q v F1 H1 g1 r1 rp => ?_⟩
    cases d with
    | int n =>
      cases rp
      obtain ⟨⟨q1, q2⟩, q⟩ := q
      exact ⟨n, rfl, q1, q2, k _ q _ F1 H1 g1 r1 (itd_range n.toNat)⟩
    | _ => exact q.elim
/-- zip of two tuples or two lists -/
def zipD (xs ys : List PyData) : List PyData := List.zipWith (fun x y => .tuple [x, y]) xs ys
def wZip (wa wb : WE) : WP := fun ρ Q => wa ρ fun x => wb ρ fun y => match x, y with
  | .list xs, .list ys => Q (zipD xs ys)
  | .tuple xs, .tuple ys => Q (zipD xs ys)
  | _, _ => False
theorem walk_zipT {K : PySem.W.Frag} {a b : Addr} {xs ys : List V} {n : Nat} (hn : n = min xs.length ys.length) : Walk (RZ.ItzT K a b) n (fun H => SqT K H a xs ∧ SqT K H b ys) (YPair (fun i => xs[i]?) (fun i => ys[i]?)) := by
  subst hn
  refine ⟨fun i _ hi q => ?_, fun _ q => ⟨xs, ys, q.1, q.2, by omega⟩, fun i H v H' _ q y => ?_⟩
  · have h1 : i < xs.length := by omega
    have h2 : i < ys.length := by omega
    exact ⟨xs, ys, xs[i], ys[i], q.1, q.2, by simp [h1], by simp [h2]⟩
  · obtain ⟨T, x, z, h1, h2, h3, h4, h5⟩ := y
    exact ⟨T, x, z, h1, h2, h3, h4 xs q.1, h5 ys q.2⟩
theorem zip_items {K : PySem.W.Frag} {F1 : Hp} {xs ys : List V} {dx dy : List PyData} (rx : RpAll K F1 xs dx) (ry : RpAll K F1 ys dy) (i : Nat) (d : PyData) (x y : V) (F : Hp) (f : ∀ b o, F1 b = some o → F b = some o) (hd : (zipD dx dy)[i]? = some d) (hx : xs[i]? = some x) (hy : ys[i]? = some y) :
    ∃ ex ey, d = .tuple [ex, ey] ∧ Rp K F x ex ∧ Rp K F y ey := by
  unfold zipD at hd
  rw [List.getElem?_zipWith] at hd
  cases e1 : dx[i]? with
  | none => rw [e1] at hd; simp at hd
  | some ex =>
    cases e2 : dy[i]? with
    | none => rw [e1, e2] at hd; simp at hd
    | some ey =>
      rw [e1, e2] at hd
      simp at hd
      exact ⟨ex, ey, hd.symm, rp_mono f _ _ (rpAll_get i rx hx e1), rp_mono f _ _ (rpAll_get i ry hy e2)⟩
theorem di_zip {elts : List Expr} {kk : Nat} {tpos p : Pos} (ha : DE W X a wa) (hb : DE W X b wb) (hg : Gl X "zip") (hm : X.mg "zip" = none)
    (hs : starEach [a, b] X.env = (false, eval a X.env) :: starEach [b] X.env := by rfl) (hs2 : starEach [b] X.env = (false, eval b X.env) :: starEach [] X.env := by rfl) (hpl : (backTo pos (starEach [b] X.env)).any (·.1) = false := by rfl) :
    DI W X (.Tuple elts kk tpos) (.Call (.Name "zip" p) [a, b] [] pos) (wZip wa wb) := pi_weak (RZ.pi_zipA hg hm (pa_cons ha (pa_cons hb pa_nil hs2) hs) hs hpl) fun σ H R h => by
  obtain ⟨F, ρ, H0, P, g, ev, h, k⟩ := h
  refine ⟨F, ρ, H0, _, g, ev, h, fun dx qx v F1 H1 g1 r1 rx => ?_⟩
  refine ⟨F1, ρ, H0, _, g1, ev.grow r1, qx, fun dy qy u F2 H2 g2 r2 ry => ?_⟩
  have rx' := rp_mono r2.f _ _ rx
  cases dx with
  | list xs =>
    cases dy with
    | list ys =>
      cases rx' with
      | lst sx ax =>
        cases ry with
        | lst sy ay =>
          refine ⟨_, _, _, _, rfl, .inl ⟨.inl (rd_mono g2.sub sx), .inl (rd_mono g2.sub sy), k _ qy _ F2 H2 g2 (r1.trans r2) ?_⟩⟩
          refine itd_pair (walk_zip rfl) ?_ (fun F' H' g' f => ⟨.inl (rd_mono g'.sub (rd_mono f sx)), .inl (rd_mono g'.sub (rd_mono f sy))⟩) fun i d x y F f hd hx hy => zip_items ax ay i d x y F f hd hx hy
          unfold zipD
          rw [List.length_zipWith, rpAll_len ax, rpAll_len ay]
    | _ => exact qy.elim
  | tuple xs =>
    cases dy with
    | tuple ys =>
      cases rx' with
      | tup sx ax =>
        cases ry with
        | tup sy ay =>
          refine ⟨_, _, _, _, rfl, .inr ⟨SqT.of (g2.sub _ _ sx), SqT.of (g2.sub _ _ sy), k _ qy _ F2 H2 g2 (r1.trans r2) ?_⟩⟩
          refine itd_pair (walk_zipT rfl) ?_ (fun F' H' g' f => ⟨SqT.of (g'.sub _ _ (f _ _ sx)), SqT.of (g'.sub _ _ (f _ _ sy))⟩) fun i d x y F f hd hx hy => zip_items ax ay i d x y F f hd hx hy
          unfold zipD
          rw [List.length_zipWith, rpAll_len ax, rpAll_len ay]
    | _ => exact qy.elim
  | _ =>
    cases dy with
    | _ => exact qy.elim
/-! ### list comprehensions -/
def wipeR (ρ : En) : List Nat → En
  | [] => ρ
  | v :: vs => (wipeR ρ vs).set v .no
theorem EnvOk.wipe {K : PySem.W.Frag} {F H : Hp} {σ : L2.St} {ρ : En} (ev : EnvOk K W H0 F H σ ρ) : ∀ vs : List Nat, EnvOk K W H0 F H (wipe σ vs) (wipeR ρ vs)
  | [] => ev
  | v :: vs => by
    have i := EnvOk.wipe ev vs
    unfold L2.wipe wipeR
    refine ⟨by rw [List.length_set, List.length_set]; exact i.len, fun j => ?_, fun j k a hjk oj ok ej ek => ?_⟩
    · rw [getD_set, getD_set, i.len]
      by_cases q : v = j ∧ j < (wipeR ρ vs).length
      · rw [if_pos q, if_pos q]
        exact trivial
      · rw [if_neg q, if_neg q]
        exact i.slot j
    · rw [getD_set] at oj ok ej ek
      rw [i.len] at ej ek
      by_cases q : v = j ∧ j < (wipeR ρ vs).length
      · rw [if_pos q] at oj
        exact oj.elim
      · rw [if_neg q] at oj ej
        by_cases q2 : v = k ∧ k < (wipeR ρ vs).length
        · rw [if_pos q2] at ok
          exact ok.elim
        · rw [if_neg q2] at ok ek
          exact i.uniq j k a hjk oj ok ej ek
theorem wipe_wipe (σ : L2.St) (vs : List Nat) : wipe (wipe σ vs) vs = wipe σ vs := by
  have key : ∀ (us : List Nat), (∀ i ∈ us, i ∈ vs) → wipe (wipe σ us) vs = wipe σ vs := fun us => by
    induction us with
    | nil => intro _; rfl
    | cons u us ih =>
      intro h
      have e : wipe σ (u :: us) = (wipe σ us).set u none := rfl
      rw [e, wipe_set vs _ (h u List.mem_cons_self)]
      exact ih fun i hi => h i (List.mem_cons_of_mem _ hi)
  exact key vs fun _ h => h
/-- [elt for target in ds if ..]: acc so far -/
def wLcL (g : WG) (tt : WT) (te : WE) : List PyData → List PyData → En → (List PyData → Prop) → Prop
  | [], acc, _, Q => Q acc
  | d :: ds, acc, ρ, Q => g d ρ fun ρ' => tt ρ' fun b => if b = true then te ρ' fun x => acc.length < sizeLine ∧ wLcL g tt te ds (acc ++ [x]) ρ Q else wLcL g tt te ds acc ρ Q
def wLc (wl : WP) (g : WG) (tt : WT) (te : WE) (vs : List Nat) : WP := fun ρ Q => wl ρ fun ds => wLcL g tt te ds [] (wipeR ρ vs) Q
def wYes : WT := fun _ Q => Q true
abbrev DTs (W : Wd) (X : Cx) (es : List Expr) (w : WT) : Prop := PTs X es (lT X.K W w)
theorem pts_weak {es : List Expr} {t t' : TT} (h : PTs X es t) (hw : ∀ σ H Q, t' σ H Q → t σ H Q) : PTs X es t' := ⟨fun pins s σ H Q I q => h.run pins s σ H Q I (hw _ _ _ q)⟩
theorem dts_nil : DTs W X [] wYes := pts_weak pts_nil fun σ H Q h => by
  obtain ⟨F, ρ, H0, P, g, ev, h, k⟩ := h
  exact k true h F H g Gr.refl
theorem dts_one {wt : WT} (h : DT W X c wt) : DTs W X [c] wt := pts_one h
theorem lc_run {K : PySem.W.Frag} {g : WG} {tt : WT} {te : WE} {vs : List Nat} {σ : L2.St} {F H : Hp} {ρ : En} {P : List PyData → Prop} {Q : VK} {J : It} {ds : List PyData} {F1 H1 : Hp} {D : Addr}
    (gd : Gd W F H) (g1 : Gd W F1 H1) (r1 : Gr W F H F1 H1) (ev : EnvOk K W H0 F1 H1 σ ρ) (it : ItD K W F1 J ds) (hD : H1 D = none) (q : wLcL g tt te ds [] (wipeR ρ vs) P)
    (k : ∀ ds, P ds → ∀ a xs F' H', Gd W F' H' → Gr W F H F' H' → H a = none → H' a = some (.lst xs) → F' a = none → RpAll K F' xs ds → Q (.ref a) H') :
    ∃ Wn : Nat → Nat → Hp → Prop, (∃ m, Wn 0 m (upd H1 D (.lst []))) ∧ ∀ i m H, Wn i m H →
      (J.stop i H ∧ Q (.ref D) H) ∨ (J.go i H ∧ ∃ Nx : Hp → Prop, (∀ H', Nx H' → ∃ m', m' < m ∧ Wn (i + 1) m' H') ∧ ∀ x H', J.yld i H x H' → lG K W (some vs) g x (wipe σ vs) H' fun σ2 H2 => wipe σ2 vs = wipe σ vs ∧ lT K W tt σ2 H2 fun b H3 =>
        if b = true then lE K W te σ2 H3 fun y H4 => ∃ acc, H4 D = some (.lst acc) ∧ acc.length < sizeLine ∧ Nx (upd H4 D (.lst (acc ++ [y]))) else Nx H3) := by
  have nm : ¬ W.M D := g1.notM hD
  have hDH : H D = none := r1.none_of hD
  refine ⟨fun i m H2 => i + m = ds.length ∧ ∃ F2 acc xs, Gd W F2 H2 ∧ Gr W F1 H1 F2 H2 ∧ F2 D = none ∧ H2 D = some (.lst xs) ∧ RpAll K F2 xs acc ∧ wLcL g tt te (ds.drop i) acc (wipeR ρ vs) P,
    ⟨ds.length, by omega, F1, [], [], g1.free (g1.fnone hD) nm, Gr.new hD, g1.fnone hD, upd_same, .nil, q⟩, ?_⟩
  rintro i m H2 ⟨hm, F2, acc, xs, g2, r2, fD, eD, ra, q2⟩
  by_cases hi : i < ds.length
  · have hd : ds.drop i = ds[i] :: ds.drop (i + 1) := List.drop_eq_getElem_cons hi
    rw [hd] at q2
    refine .inr ⟨it.go i F2 H2 g2 r2.f hi, fun H' => ∃ F' acc xs, Gd W F' H' ∧ Gr W F1 H1 F' H' ∧ F' D = none ∧ H' D = some (.lst xs) ∧ RpAll K F' xs acc ∧ wLcL g tt te (ds.drop (i + 1)) acc (wipeR ρ vs) P, fun H' z => ⟨m - 1, by omega, by omega, z⟩, fun x H3 y => ?_⟩
    obtain ⟨F3, g3, r3, rp⟩ := it.yld i ds[i] F2 H2 x H3 g2 r2.f (List.getElem?_eq_getElem hi) y
    have hD2 : H2 D ≠ none := by rw [eD]; simp
    have eD3 : H3 D = some (.lst xs) := r3.h D _ nm eD
    have fD3 : F3 D = none := (r3.n D hD2).trans fD
    have r13 := r2.trans r3
    have ev3 := (ev.grow r13).wipe vs
    refine ⟨F3, _, H0, ds[i], _, g3, ev3, rp, q2, fun ρ4 q4 σ4 ev4 s4 => ⟨(show wipe σ4 vs = wipe (wipe σ vs) vs from s4).trans (wipe_wipe σ vs), F3, ρ4, H0, _, g3, ev4, q4, fun b qb F5 H5 g5 r5 => ?_⟩⟩
    have hD3 : H3 D ≠ none := by rw [eD3]; simp
    have eD5 : H5 D = some (.lst xs) := r5.h D _ nm eD3
    have fD5 : F5 D = none := (r5.n D hD3).trans fD3
    have f25 : ∀ b o, F2 b = some o → F5 b = some o := (r3.trans r5).f
    cases b with
    | false => exact ⟨F5, acc, xs, g5, r13.trans r5, fD5, eD5, rpAll_mono f25 _ _ ra, qb⟩
    | true =>
      refine ⟨F5, ρ4, H0, _, g5, ev4.grow r5, qb, fun d qd v F6 H6 g6 r6 rd => ?_⟩
      have hD5 : H5 D ≠ none := by rw [eD5]; simp
      have eD6 : H6 D = some (.lst xs) := r6.h D _ nm eD5
      have fD6 : F6 D = none := (r6.n D hD5).trans fD5
      have f26 : ∀ b o, F2 b = some o → F6 b = some o := ((r3.trans r5).trans r6).f
      obtain ⟨hz, qd⟩ := qd
      refine ⟨xs, eD6, by rw [rpAll_len ra]; exact hz, F6, acc ++ [d], xs ++ [v], g6.free fD6 nm, ?_, fD6, upd_same, rpAll_app (rpAll_mono f26 _ _ ra) (.cons rd .nil), qd⟩
      exact ((r13.trans r5).trans r6).chg hD
  · have hl : i = ds.length := by omega
    subst hl
    rw [List.drop_length] at q2
    exact .inl ⟨it.stop F2 H2 g2 r2.f, k acc q2 D xs F2 H2 g2 (r1.trans r2) hDH eD fD ra⟩
theorem df_lc {elt tg iter : Expr} {ifs : List Expr} {scope : Scope} {own : List (Str × Nat)} {wl : WP} {g : WG} {tt : WT} {te : WE} (hc : X.calm = true) (hN : X.N.Nodup) (hi : DI W X tg iter wl) (ok : BlkOk X.N X.env.scope scope own)
    (hg : ∀ (s : Shared) (H : Hp) (C : Addr) (cl : List (Str × Addr)) (fp : List Addr), DG W (X.blk s H scope (compEnvC scope cl C X.env) fp) (some (own.map (·.2))) tg g) (ht : ∀ (s : Shared) (H : Hp) (C : Addr) (cl : List (Str × Addr)) (fp : List Addr), DTs W (X.blk s H scope (compEnvC scope cl C X.env) fp) ifs tt)
    (he : ∀ (s : Shared) (H : Hp) (C : Addr) (cl : List (Str × Addr)) (fp : List Addr), DE W (X.blk s H scope (compEnvC scope cl C X.env) fp) elt te) (hs : ∀ x, foldedSetIterable iter X.env x = pure x := by intro _; rfl) :
    DF W X (.ListComp elt [⟨tg, iter, ifs, 0⟩] scope pos) (wLc wl g tt te (own.map (·.2))) := pe_weak (pe_lc hc hN hi ok hg ht he hs) fun σ H Q h => by
  obtain ⟨F, ρ, H0, P, gd, ev, h, k⟩ := h
  exact ⟨F, ρ, H0, _, gd, ev, h, fun ds q J F1 H1 g1 r1 it D hD => lc_run gd g1 r1 (ev.grow r1) it hD q k⟩
theorem t_setLc {K : PySem.W.Frag} {wl : WP} {wi : TI} {g : TG} {tt : TT} {te : TE} {vs : List Nat} {i : Nat} {w : WP} (hw : ∀ σ H Q, lF K W w σ H Q → tLc wi g tt te vs σ H Q) {D : Ends} {σ : L2.St} {H : Hp} (h : lS K W H0 (wSetO i w) D σ H) : tAsg (tLc wi g tt te vs) (gName i) D σ H := hw σ H _ (t_setO h)
/-- name = [..] on one line, the name a local: a list of its own -/
theorem ds_setLc {i : Nat} {y : Str} {py spos : Pos} {elt tg iter : Expr} {ifs : List Expr} {scope : Scope} {own : List (Str × Nat)} {wl : WP} {g : WG} {tt : WT} {te : WE} (hc : X.calm = true) (hN : X.N.Nodup) (hy : X.N[i]? = some y) (hyl : X.env.scope.names.lookup y = some .local)
    (hsw : swapsWith (.ListComp elt [⟨tg, iter, ifs, 0⟩] scope pos) (some (.Name y py)) spos.line X.env = pure true) (hi : DI W X tg iter wl) (ok : BlkOk X.N X.env.scope scope own)
    (hg : ∀ (s : Shared) (H : Hp) (C : Addr) (cl : List (Str × Addr)) (fp : List Addr), DG W (X.blk s H scope (compEnvC scope cl C X.env) fp) (some (own.map (·.2))) tg g) (ht : ∀ (s : Shared) (H : Hp) (C : Addr) (cl : List (Str × Addr)) (fp : List Addr), DTs W (X.blk s H scope (compEnvC scope cl C X.env) fp) ifs tt)
    (he : ∀ (s : Shared) (H : Hp) (C : Addr) (cl : List (Str × Addr)) (fp : List Addr), DE W (X.blk s H scope (compEnvC scope cl C X.env) fp) elt te) (hs : ∀ x, foldedSetIterable iter X.env x = pure x := by intro _; rfl) :
    DS W H0 X (.Assign [.Name y py] (.ListComp elt [⟨tg, iter, ifs, 0⟩] scope pos) spos) (wSetO i (wLc wl g tt te (own.map (·.2)))) := ps_weak (ps_setLc (g := lG X.K W (some (own.map (·.2))) g) (tt := lT X.K W tt) (te := lE X.K W te) hc hN hy hyl hsw hi ok hg ht he hs) fun D σ H h => by
  refine t_setLc (wl := wl) (fun σ H Q h => ?_) h
  obtain ⟨F, ρ, H0, P, gd, ev, h, k⟩ := h
  exact ⟨F, ρ, H0, _, gd, ev, h, fun ds q J F1 H1 g1 r1 it D hD => lc_run gd g1 r1 (ev.grow r1) it hD q k⟩
end
end Qd
set_option maxHeartbeats 2000000
namespace Qd
open PySem PySem.Spec PyProof.Rows L2

/-! ### calls of built-ins -/
abbrev RB := List PyData → (PyData → Prop) → Prop
abbrev RF := List PyData → (List PyData → Prop) → Prop
def KF (K : PySem.W.Frag) (W : Wd) (F H : Hp) (P : List PyData → Prop) (Q : VK) : Prop :=
  ∀ ds, P ds → ∀ a xs F' H', Gd W F' H' → Gr W F H F' H' → H a = none → H' a = some (.lst xs) → F' a = none → RpAll K F' xs ds → Q (.ref a) H'
def CallP (W : Wd) (X : Cx) (f : Value) (r : RB) : Prop := CallR X f fun xs H Q => ∃ F ds P, Gd W F H ∧ Paired (Shl X.K W F H) xs ds ∧ r ds P ∧ KD X.K W F H P Q
def CallF (W : Wd) (X : Cx) (f : Value) (r : RF) : Prop := CallR X f fun xs H Q => ∃ F ds P, Gd W F H ∧ Paired (Shl X.K W F H) xs ds ∧ r ds P ∧ KF X.K W F H P Q
def wCallB (r : RB) (wp : WP) : WE := fun ρ Q => wp ρ fun ds => r ds Q
def wCallF (r : RF) (wp : WP) : WP := fun ρ Q => wp ρ fun ds => r ds Q
theorem KF.laid {K : PySem.W.Frag} {W : Wd} {F H : Hp} {P : List PyData → Prop} {Q : VK} {ds : List PyData} {xs : List V} {p : Addr} (k : KF K W F H P Q) (g : Gd W F H) (e : H p = none) (hp : P ds) (r : RpAll K F xs ds) : Q (.ref p) (upd H p (.lst xs)) :=
  k ds hp p xs F _ (g.free (g.fnone e) (g.notM e)) (Gr.new e) e upd_same (g.fnone e) r
section
variable {W : Wd} {H0 : Hp} {X : Cx} {a b c e : Expr} {es : List Expr} {we wa wb : WE} {wp : WP} {pos p : Pos} {x : Str} {id T : String} {r : RB} {rf : RF}
theorem t_callB {K : PySem.W.Frag} {σ : L2.St} {H : Hp} {Q : VK} (h : lE K W (wCallB r wp) σ H Q) : tCB (fun xs H Q => ∃ F ds P, Gd W F H ∧ Paired (Shl K W F H) xs ds ∧ r ds P ∧ KD K W F H P Q) (lAp K W wp) σ H Q := by
  obtain ⟨F, ρ, H0, P, g, ev, h, k⟩ := h
  exact ⟨F, ρ, H0, _, g, ev, h, fun ds q vs F1 H1 g1 r1 ps => ⟨F1, ds, P, g1, ps, q, k.then r1⟩⟩
theorem t_callF {K : PySem.W.Frag} {σ : L2.St} {H : Hp} {Q : VK} (h : lF K W (wCallF rf wp) σ H Q) : tCB (fun xs H Q => ∃ F ds P, Gd W F H ∧ Paired (Shl K W F H) xs ds ∧ rf ds P ∧ KF K W F H P Q) (lAp K W wp) σ H Q := by
  obtain ⟨F, ρ, H0, P, g, ev, h, k⟩ := h
  exact ⟨F, ρ, H0, _, g, ev, h, fun ds q vs F1 H1 g1 r1 ps => ⟨F1, ds, P, g1, ps, q, fun ds d a xs F' H' g' r' hn ha hf rp => k ds d a xs F' H' g' (r1.trans r') (r1.none_of hn) ha hf rp⟩⟩
theorem de_callB (hc : CallP W X (.builtin id) r) (hg : Gl X x) (hm : X.mg x = none) (hv : bootBuiltins x = some (.builtin id)) (ha : DAp W X (e :: es) wp) (hn : x ≠ "__name__" := by decide) (hdb : (x == ("__debug__" : Str)) = false := by decide)
    (he : starEach (e :: es) X.env = (false, eval e X.env) :: starEach es X.env := by rfl) (hpl : (backTo pos (starEach es X.env)).any (·.1) = false := by rfl) : DE W X (.Call (.Name x p) (e :: es) [] pos) (wCallB r wp) :=
  pe_weak (pe_callB hc hg hm hv ha hn hdb he hpl) fun _ _ _ h => t_callB h
theorem de_callT (hc : CallP W X (.type T) r) (hg : Gl X x) (hm : X.mg x = none) (hv : bootBuiltins x = some (.type T)) (ha : DAp W X (e :: es) wp) (hn : x ≠ "__name__" := by decide) (hdb : (x == ("__debug__" : Str)) = false := by decide)
    (he : starEach (e :: es) X.env = (false, eval e X.env) :: starEach es X.env := by rfl) (hpl : (backTo pos (starEach es X.env)).any (·.1) = false := by rfl) : DE W X (.Call (.Name x p) (e :: es) [] pos) (wCallB r wp) :=
  pe_weak (pe_callTy hc hg hm hv ha hn hdb he hpl) fun _ _ _ h => t_callB h
theorem df_callB (hc : CallF W X (.builtin id) rf) (hg : Gl X x) (hm : X.mg x = none) (hv : bootBuiltins x = some (.builtin id)) (ha : DAp W X (e :: es) wp) (hn : x ≠ "__name__" := by decide) (hdb : (x == ("__debug__" : Str)) = false := by decide)
    (he : starEach (e :: es) X.env = (false, eval e X.env) :: starEach es X.env := by rfl) (hpl : (backTo pos (starEach es X.env)).any (·.1) = false := by rfl) : DF W X (.Call (.Name x p) (e :: es) [] pos) (wCallF rf wp) :=
  pe_weak (pe_callB hc hg hm hv ha hn hdb he hpl) fun _ _ _ h => t_callF h
theorem df_callT (hc : CallF W X (.type T) rf) (hg : Gl X x) (hm : X.mg x = none) (hv : bootBuiltins x = some (.type T)) (ha : DAp W X (e :: es) wp) (hn : x ≠ "__name__" := by decide) (hdb : (x == ("__debug__" : Str)) = false := by decide)
    (he : starEach (e :: es) X.env = (false, eval e X.env) :: starEach es X.env := by rfl) (hpl : (backTo pos (starEach es X.env)).any (·.1) = false := by rfl) : DF W X (.Call (.Name x p) (e :: es) [] pos) (wCallF rf wp) :=
  pe_weak (pe_callTy hc hg hm hv ha hn hdb he hpl) fun _ _ _ h => t_callF h
/-! len, abs, int, max, min, sum, all, any -/
def rLen : RB := fun ds Q => match ds with
  | [d] => (match itemsD d with
    | some es => Q (.int (es.length : Int))
    | none => False)
  | _ => False
theorem paired1 {α β : Type} {R : α → β → Prop} {xs : List α} {y : β} (h : Paired R xs [y]) : ∃ x, xs = [x] ∧ R x y := by
  cases h with
  | cons r t =>
    cases t
    exact ⟨_, rfl, r⟩
theorem paired2 {α β : Type} {R : α → β → Prop} {xs : List α} {y z : β} (h : Paired R xs [y, z]) : ∃ x u, xs = [x, u] ∧ R x y ∧ R u z := by
  cases h with
  | cons r t =>
    obtain ⟨u, rfl, q⟩ := paired1 t
    exact ⟨_, _, rfl, r, q⟩
theorem cp_len : CallP W X (.builtin "len") rLen := by
  intro pins s σ H xs us Q I rv h
  obtain ⟨F, ds, P, g, ps, h, k⟩ := h
  unfold rLen at h
  cases ds with
  | nil => exact h.elim
  | cons d ds =>
    cases ds with
    | cons _ _ => exact h.elim
    | nil =>
      dsimp only at h
      obtain ⟨v, rfl, sh⟩ := paired1 ps
      cases e : itemsD d with
      | none => rw [e] at h; exact h.elim
      | some es =>
        rw [e] at h
        obtain ⟨a, xs, rfl, hs, rx⟩ := items_sq g sh e
        refine call_len_seq pins s σ H _ us Q I rv ⟨a, xs, rfl, hs, ?_⟩
        rw [rpAll_len rx]
        exact k.val g h (.int _)
def rInt1 (f : Int → Int) : RB := fun ds Q => match ds with
  | [.int i] => Q (.int (f i))
  | _ => False
def rInt2 (f : Int → Int → Int) : RB := fun ds Q => match ds with
  | [.int i, .int j] => Q (.int (f i j))
  | _ => False
theorem int1_of {f : Int → Int} {ds : List PyData} {P : PyData → Prop} (h : rInt1 f ds P) : ∃ i, ds = [.int i] ∧ P (.int (f i)) := by
  unfold rInt1 at h
  split at h
  · exact ⟨_, rfl, h⟩
  · exact h.elim
theorem int2_of {f : Int → Int → Int} {ds : List PyData} {P : PyData → Prop} (h : rInt2 f ds P) : ∃ i j, ds = [.int i, .int j] ∧ P (.int (f i j)) := by
  unfold rInt2 at h
  split at h
  · exact ⟨_, _, rfl, h⟩
  · exact h.elim
theorem shl_int {K : PySem.W.Frag} {F H : Hp} {v : V} {i : Int} (h : Shl K W F H v (.int i)) : v = .int i := by
  cases shl_rp h (fun _ z => by cases z)
  rfl
theorem cp_i1 {f : Value} {g : Int → Int} (hc : CallR X f fun xs H Q => ∃ i, xs = [.int i] ∧ Q (.int (g i)) H) : CallP W X f (rInt1 g) := by
  intro pins s σ H xs us Q I rv h
  obtain ⟨F, ds, P, gd, ps, h, k⟩ := h
  obtain ⟨i, rfl, p⟩ := int1_of h
  obtain ⟨v, rfl, sh⟩ := paired1 ps
  cases shl_int sh
  exact hc pins s σ H _ us Q I rv ⟨i, rfl, k.val gd p (.int _)⟩
theorem cp_i2 {f : Value} {g : Int → Int → Int} (hc : CallR X f fun xs H Q => ∃ i j, xs = [.int i, .int j] ∧ Q (.int (g i j)) H) : CallP W X f (rInt2 g) := by
  intro pins s σ H xs us Q I rv h
  obtain ⟨F, ds, P, gd, ps, h, k⟩ := h
  obtain ⟨i, j, rfl, p⟩ := int2_of h
  obtain ⟨v, u, rfl, s1, s2⟩ := paired2 ps
  cases shl_int s1
  cases shl_int s2
  exact hc pins s σ H _ us Q I rv ⟨i, j, rfl, k.val gd p (.int _)⟩
theorem cp_abs : CallP W X (.builtin "abs") (rInt1 fun i => if i < 0 then -i else i) := cp_i1 call_abs
theorem cp_max2 (hc : X.calm = true) : CallP W X (.builtin "max") (rInt2 fun i j => if j > i then j else i) := cp_i2 (call_max2 hc)
theorem cp_min2 (hc : X.calm = true) : CallP W X (.builtin "min") (rInt2 fun i j => if j < i then j else i) := cp_i2 (call_min2 hc)
theorem cp_int : CallP W X (.type "int") (rInt1 fun i => i) := cp_i1 fun pins s σ H xs us Q I rv h => call_int1 pins s σ H xs us Q I rv (.inl h)
/-- sum, all, any of a list -/
def rSumD : RB := fun ds Q => match ds with
  | [.list es] => (match intsD es with
    | some ns => Q (.int ns.sum)
    | none => False)
  | _ => False
def boolsD : List PyData → Option (List Bool)
  | [] => some []
  | .bool b :: r => (boolsD r).map (b :: ·)
  | _ => none
theorem bools_v {K : PySem.W.Frag} {F : Hp} : ∀ {vs : List V} {ds : List PyData} {bs : List Bool}, RpAll K F vs ds → boolsD ds = some bs → vs = bs.map V.bl
  | [], _, ns, h, e => by cases h; cases e; rfl
  | _ :: _, _, ns, h, e => by
    cases h with
    | @cons _ _ d ds h1 h2 =>
      unfold boolsD at e
      cases d with
      | bool i =>
        cases h1
        cases q : boolsD ds with
        | none => simp [q] at e
        | some r =>
          simp [q] at e
          subst e
          rw [List.map_cons, bools_v h2 q]
      | _ => cases e
theorem cp_sum (hc : X.calm = true) : CallP W X (.builtin "sum") rSumD := by
  intro pins s σ H xs us Q I rv h
  obtain ⟨F, ds, P, g, ps, h, k⟩ := h
  unfold rSumD at h
  split at h
  · rename_i es
    obtain ⟨v, rfl, sh⟩ := paired1 ps
    obtain ⟨a, xs, rfl, hs, rx⟩ := shl_list g sh
    cases e : intsD es with
    | none => rw [e] at h; exact h.elim
    | some ns =>
      rw [e] at h
      have z := ints_v rx e
      subst z
      exact cr_sum hc pins s σ H _ us Q I rv ⟨a, ns, rfl, .inl hs, k.val g h (.int _)⟩
  · exact h.elim
def rBools (f : List Bool → Bool) : RB := fun ds Q => match ds with
  | [.list es] => (match boolsD es with
    | some bs => Q (.bool (f bs))
    | none => False)
  | _ => False
theorem cp_bools {f : Value} {g : List Bool → Bool} (hc : CallR X f fun vs H Q => ∃ (a : Addr) (bs : List Bool), vs = [V.ref a] ∧ SqL X.K H a (bs.map V.bl) ∧ Q (.bl (g bs)) H) : CallP W X f (rBools g) := by
  intro pins s σ H xs us Q I rv h
  obtain ⟨F, ds, P, gd, ps, h, k⟩ := h
  unfold rBools at h
  split at h
  · rename_i es
    obtain ⟨v, rfl, sh⟩ := paired1 ps
    obtain ⟨a, xs, rfl, hs, rx⟩ := shl_list gd sh
    cases e : boolsD es with
    | none => rw [e] at h; exact h.elim
    | some ns =>
      rw [e] at h
      have z := bools_v rx e
      subst z
      exact hc pins s σ H _ us Q I rv ⟨a, ns, rfl, .inl hs, k.val gd h (.bl _)⟩
  · exact h.elim
abbrev rAllD : RB := rBools fun bs => bs.all _root_.id
abbrev rAnyD : RB := rBools fun bs => bs.any _root_.id
theorem cp_all (hc : X.calm = true) : CallP W X (.builtin "all") rAllD := cp_bools (cr_all hc)
theorem cp_any (hc : X.calm = true) : CallP W X (.builtin "any") rAnyD := cp_bools (cr_any hc)
/-! tuple(x), list(x) -/
def rTupD : RB := fun ds Q => match ds with
  | [d] => (match itemsD d with
    | some es => Q (.tuple es)
    | none => False)
  | _ => False
theorem cp_tuple : CallP W X (.type "tuple") rTupD := by
  intro pins s σ H xs us Q I rv h
  obtain ⟨F, ds, P, g, ps, h, k⟩ := h
  unfold rTupD at h
  split at h
  · rename_i d
    obtain ⟨v, rfl, sh⟩ := paired1 ps
    cases e : itemsD d with
    | none => rw [e] at h; exact h.elim
    | some es =>
      rw [e] at h
      cases d with
      | list ds =>
        cases e
        obtain ⟨a, xs, rfl, hs, rx⟩ := shl_list g sh
        exact call_tuple_of pins s σ H _ us Q I rv ⟨a, xs, rfl, .inl ⟨.inl hs, fun l hl => k.laid g hl h (rp_tupN g hl rx)⟩⟩
      | tuple ds =>
        cases e
        have rp := shl_rp sh (fun _ z => by cases z)
        obtain ⟨a, xs, rfl, hs, rx⟩ := sqT_of g rp
        exact call_tuple_of pins s σ H _ us Q I rv ⟨a, xs, rfl, .inr ⟨hs, k.val g h rp⟩⟩
      | _ => cases e
  · exact h.elim
def rListD : RF := fun ds Q => match ds with
  | [d] => (match itemsD d with
    | some es => Q es
    | none => False)
  | _ => False
theorem cf_list : CallF W X (.type "list") rListD := by
  intro pins s σ H xs us Q I rv h
  obtain ⟨F, ds, P, g, ps, h, k⟩ := h
  unfold rListD at h
  split at h
  · rename_i d
    obtain ⟨v, rfl, sh⟩ := paired1 ps
    cases e : itemsD d with
    | none => rw [e] at h; exact h.elim
    | some es =>
      rw [e] at h
      obtain ⟨a, xs, rfl, hs, rx⟩ := items_sq g sh e
      exact call_list_of pins s σ H _ us Q I rv ⟨a, xs, rfl, hs, fun l hl => k.laid g hl h rx⟩
  · exact h.elim
/-! ### calls of the program's own defs -/
abbrev SpB := List Bd → (PyData → Prop) → Prop
/-- the promise over data -/
def lSp (K : PySem.W.Frag) (W : Wd) (n : Nat) (sp : SpB) : Sp := fun vs H Q _ => ∃ F bs P, bs.length = n ∧ Gd W F H ∧ Paired (ArgOk K W F) vs bs ∧ sp bs P ∧ KD K W F H P Q
def wB (we : WE) (w : WA) : WA := fun ρ Q => we ρ fun d => w ρ fun bs => Q (.val d :: bs)
def wBst (i : Nat) (w : WA) : WA := fun ρ Q => match ρ.getD i .no with
  | .st => w ρ fun bs => Q (.st :: bs)
  | _ => False
def wB0 : WA := fun _ Q => Q []
theorem arg_grow {K : PySem.W.Frag} {F H F' H' : Hp} {v : V} {b : Bd} (r : Gr W F H F' H') (h : ArgOk K W F v b) : ArgOk K W F' v b := by
  cases b with
  | val d => exact rp_mono r.f _ _ h
  | st => exact h
  | _ => exact h.elim
theorem db_nil : DA W X [] wB0 := pa_weak pa_nil fun σ H Q h => by
  obtain ⟨F, ρ, H0, P, g, ev, h, k⟩ := h
  exact k [] h [] F H g Gr.refl .nil
theorem db_cons {w : WA} (he : DE W X e we) (hr : DA W X es w) (hs : starEach (e :: es) X.env = (false, eval e X.env) :: starEach es X.env := by rfl) : DA W X (e :: es) (wB we w) := pa_weak (pa_cons he hr hs) fun σ H Q h => by
  obtain ⟨F, ρ, H0, P, g, ev, h, k⟩ := h
  refine ⟨F, ρ, H0, _, g, ev, h, fun dx hx vx F1 H1 g1 r1 px => ?_⟩
  exact ⟨F1, ρ, H0, _, g1, ev.grow r1, hx, fun ds hd vs F2 H2 g2 r2 ps => k _ hd _ F2 H2 g2 (r1.trans r2) (.cons (rp_mono r2.f _ _ px) ps)⟩
theorem db_st {w : WA} (i : Nat) {y : Str} {q : Pos} (hr : DA W X es w) (hN : X.N[i]? = some y := by rfl) (hv : Vis X.env.scope y := by first | exact Or.inl rfl | exact Or.inr (Or.inl rfl) | exact Or.inr (Or.inr rfl)) (hd : (y == ("__debug__" : Str)) = false := by decide)
    (hcd : (y == ("__classdict__" : Str)) = false := by decide) (hs : starEach (.Name y q :: es) X.env = (false, eval (.Name y q) X.env) :: starEach es X.env := by rfl) : DA W X (.Name y q :: es) (wBst i w) := pa_weak (pa_cons (pe_var hN hv hd hcd) hr hs) fun σ H Q h => by
  obtain ⟨F, ρ, H0, P, g, ev, h, k⟩ := h
  unfold wBst at h
  have z := ev.slot i
  cases e : ρ.getD i .no with
  | st =>
    rw [e] at h z
    exact ⟨_, getD_some z, F, ρ, H0, _, g, ev, h, fun ds hd vs F2 H2 g2 r2 ps => k _ hd _ F2 H2 g2 r2 (.cons rfl ps)⟩
  | _ => rw [e] at h; exact h.elim
def wCall (sp : SpB) (n : Nat) (w : WA) : WE := fun ρ Q => w ρ fun bs => bs.length = n ∧ sp bs Q
variable {CX : CXT} {k n : Nat} {f : Addr} {fd : FuncData} {ps : List Str} {sp : SpB} {E : XK} {w : WA}
theorem de_call (G : FnOk X.prog X.w X.K X.mg X.base CX0 k f fd ps (lSp X.K W n sp)) (hr : Room k X.A) (hg : Gl X x) (hm : X.mg x = some (.ref f)) (hk : PySem.W.keepIn X.K (.ref f) = true) (hb : Binds X.K fd ps [])
    (ha : DA W X (e :: es) w) (hdb : (x == ("__debug__" : Str)) = false := by decide) (he : starEach (e :: es) X.env = (false, eval e X.env) :: starEach es X.env := by rfl) (hpl : (backTo pos (starEach es X.env)).any (·.1) = false := by rfl) :
    DE W X (.Call (.Name x p) (e :: es) [] pos) (wCall sp n w) := pe_weak (pe_call G hr hg hm hk hb .nil pass0 ha hdb he hpl) fun σ H Q h => by
  obtain ⟨F, ρ, H0, P, g, ev, h, kk⟩ := h
  refine ⟨F, ρ, H0, _, g, ev, h, fun bs q vs F1 H1 g1 r1 ps => ?_⟩
  show lSp X.K W n sp (vs ++ []) H1 Q E0
  rw [List.append_nil]
  exact ⟨F1, bs, P, q.1, g1, ps, q.2, kk.then r1⟩
end
/-! ### a def's promise by its body's reading -/
theorem start_env {K : PySem.W.Frag} {W : Wd} {F H : Hp} {N : List Str} {vs : List V} {bs : List Bd} (ps : Paired (ArgOk K W F) vs bs) :
    EnvOk K W H F H (L2.start N vs) (bs ++ List.replicate (N.length - bs.length) .no) := by
  have hl : vs.length = bs.length := Paired.length ps
  have arg : ∀ i, SlotOk K W H F H ((vs.map some ++ List.replicate (N.length - vs.length) none).getD i none) ((bs ++ List.replicate (N.length - bs.length) Bd.no).getD i .no) ∧ ¬ Own ((bs ++ List.replicate (N.length - bs.length) Bd.no).getD i .no) := fun i => by
    by_cases hi : i < bs.length
    · have e1 : (bs ++ List.replicate (N.length - bs.length) Bd.no).getD i .no = bs[i] := by
        rw [List.getD_eq_getElem?_getD, List.getElem?_append_left hi, List.getElem?_eq_getElem hi]
        rfl
      have hv : i < vs.length := by omega
      have e2 : (vs.map some ++ List.replicate (N.length - vs.length) none).getD i none = some vs[i] := by
        rw [List.getD_eq_getElem?_getD, List.getElem?_append_left (by rw [List.length_map]; exact hv), List.getElem?_map, List.getElem?_eq_getElem hv]
        rfl
      rw [e1, e2]
      have a : ArgOk K W F vs[i] bs[i] := by
        have key : ∀ {vs : List V} {bs : List Bd}, Paired (ArgOk K W F) vs bs → ∀ (i : Nat) (h1 : i < vs.length) (h2 : i < bs.length), ArgOk K W F vs[i] bs[i] := fun {vs bs} h => by
          induction h with
          | nil => intro i h1; exact absurd h1 (Nat.not_lt_zero _)
          | cons r t ih =>
            intro i h1 h2
            cases i with
            | zero => exact r
            | succ j => exact ih j (Nat.lt_of_succ_lt_succ h1) (Nat.lt_of_succ_lt_succ h2)
        exact key ps i hv hi
      cases eb : bs[i] with
      | val d =>
        rw [eb] at a
        exact ⟨⟨_, rfl, a⟩, fun o => o⟩
      | st =>
        rw [eb] at a
        exact ⟨congrArg some a, fun o => o⟩
      | _ => rw [eb] at a; exact a.elim
    · have e1 : (bs ++ List.replicate (N.length - bs.length) Bd.no).getD i .no = .no := by
        rw [List.getD_eq_getElem?_getD, List.getElem?_append_right (by omega), List.getElem?_replicate]
        split <;> rfl
      rw [e1]
      exact ⟨trivial, fun o => o⟩
  refine ⟨?_, fun i => (arg i).1, fun i j a _ oi => absurd oi (arg i).2⟩
  unfold L2.start
  rw [List.length_append, List.length_append, List.length_map, List.length_replicate, List.length_replicate, hl]
/-- THE RULE for a def -/
theorem fn_d {P : Program} {w : World} {K : PySem.W.Frag} {mg : Str → Option Value} {base : Heap} {x qual : Str} {params : Arguments} {body : List Stmt} {scope : Scope} {f : Addr} {fd : FuncData} {N ps : List Str} {k : Nat} {sp : SpB} {W : Wd} {wb : WS}
    (F : FunD K x qual params body scope [] [] f fd) (S : FnScope N ps scope)
    (hd : ∀ (cdv : Value) (A : Around) (outer : List Env) (s : Shared) (H : Hp) (E : XK), Room k (A.deeper (envOfC qual scope s.heap.objs.size f cdv)) → DSs W H (cxOf CX0 P w K mg base N qual scope f cdv A outer s H E).nox body wb)
    (hw : ∀ bs Q, sp bs Q → wb { nx := fun _ => Q .none, rt := Q } (bs ++ List.replicate (N.length - bs.length) .no)) : FnOk P w K mg base CX0 (k + 1) f fd ps (lSp K W ps.length sp) := by
  refine F.ok S (fun vs H Q E h => ?_) (fun cdv A outer s H vs Q E hr h => ?_)
  · obtain ⟨F', bs, P', hl, g, ps', h, k'⟩ := h
    rw [Paired.length ps']
    exact hl
  · obtain ⟨F', bs, P', hl, g, ps', h, k'⟩ := h
    refine ⟨_, (hd cdv A outer s H E hr).nox, ?_⟩
    refine ⟨F', F', _, _, g, Gr.refl, start_env ps', hw bs P' h, ⟨fun ρ q σ F1 H1 g1 r1 ev => k' .none q .non F1 H1 g1 r1 .non, fun _ q => q.elim, fun _ q => q.elim, fun d q v F1 H1 g1 r1 rp => k' d q v F1 H1 g1 r1 rp⟩⟩
end Qd
namespace Qd
open PySem PySem.Spec PyProof.Rows L2
/-- a def that may be called by its name -/
def Cal (P : Program) (w : World) (K : PySem.W.Frag) (mg : Str → Option Value) (base : Heap) (W : Wd) (x : Str) (k n : Nat) (sp : SpB) : Prop :=
  ∃ (f : Addr) (fd : FuncData) (ps : List Str), FnOk P w K mg base CX0 k f fd ps (lSp K W n sp) ∧ mg x = some (.ref f) ∧ PySem.W.keepIn K (.ref f) = true ∧ Binds K fd ps []
theorem Cal.mono {P : Program} {w : World} {K : PySem.W.Frag} {mg : Str → Option Value} {base : Heap} {W : Wd} {x : Str} {j k n : Nat} {sp : SpB} (c : Cal P w K mg base W x j n sp) (h : j ≤ k) : Cal P w K mg base W x k n sp := by
  obtain ⟨f, fd, ps, F, r⟩ := c
  exact ⟨f, fd, ps, F.mono h, r⟩
theorem de_cal {W : Wd} {X : Cx} {e : Expr} {es : List Expr} {pos p : Pos} {x : Str} {k n : Nat} {sp : SpB} {w : WA} (C : Cal X.prog X.w X.K X.mg X.base W x k n sp) (hr : Room k X.A) (hg : Gl X x)
    (ha : DA W X (e :: es) w) (hdb : (x == ("__debug__" : Str)) = false := by decide) (he : starEach (e :: es) X.env = (false, eval e X.env) :: starEach es X.env := by rfl) (hpl : (backTo pos (starEach es X.env)).any (·.1) = false := by rfl) :
    DE W X (.Call (.Name x p) (e :: es) [] pos) (wCall sp n w) := by
  obtain ⟨f, fd, ps, F, hm, hk, hb⟩ := C
  exact de_call F hr hg hm hk hb ha hdb he hpl
end Qd
namespace Qd
open PySem PySem.Spec PyProof.Rows L2
abbrev rAbs : RB := rInt1 fun i => if i < 0 then -i else i
abbrev rInt : RB := rInt1 fun i => i
abbrev rMax2 : RB := rInt2 fun i j => if j > i then j else i
abbrev rMin2 : RB := rInt2 fun i j => if j < i then j else i
abbrev rLtB : WO := fun x y Q => rLtI x y Q ∨ rLtT x y Q
theorem od_ltB {W : Wd} {X : Cx} (hu : X.A.units < cLine) : OpD W X (compareOp .Lt) rLtB := od_lt.or (od_ltT hu)
end Qd
set_option maxHeartbeats 2000000
namespace Qd
open PySem PySem.Spec PyProof.Rows L2

/-! ### isinstance of data -/
def isiD (T : String) : PyData → Option Bool
  | .int _ => if T = "int" then some true else if T = "bool" then some false else none
  | .tuple _ => if T = "tuple" then some true else none
  | .str _ => if T = "str" then some true else none
  | _ => none
theorem isi_kit {K : PySem.W.Frag} {H : Hp} {T : String} {v : V} {d : PyData} {b : Bool} (r : Rp K H v d) (z : isiD T d = some b) : ∃ t, TyX K H v t ∧ PySem.W.kitOne K t (.type T) = some b := by
  cases d with
  | int i =>
    cases r
    have z : (if T = "int" then some true else if T = "bool" then some false else none) = some b := z
    by_cases h1 : T = "int"
    · rw [if_pos h1] at z
      rw [← Option.some.inj z, h1]
      exact ⟨_, .base (.int i), kit_ty (a := "int") (by decide +kernel)⟩
    · rw [if_neg h1] at z
      by_cases h2 : T = "bool"
      · rw [if_pos h2] at z
        rw [← Option.some.inj z, h2]
        exact ⟨_, .base (.int i), kit_ty (a := "int") (by decide +kernel)⟩
      · rw [if_neg h2] at z
        cases z
  | tuple ds =>
    cases r with
    | tup hs ha =>
      have z : (if T = "tuple" then some true else none) = some b := z
      by_cases h1 : T = "tuple"
      · rw [if_pos h1] at z
        rw [← Option.some.inj z, h1]
        exact ⟨_, .base (.tup hs), kit_ty (a := "tuple") (by decide +kernel)⟩
      · rw [if_neg h1] at z
        cases z
  | str s =>
    cases r
    have z : (if T = "str" then some true else none) = some b := z
    by_cases h1 : T = "str"
    · rw [if_pos h1] at z
      rw [← Option.some.inj z, h1]
      exact ⟨_, .base (.str s), kit_ty (a := "str") (by decide +kernel)⟩
    · rw [if_neg h1] at z
      cases z
  | _ => cases z
def rIsiD (T : String) : PyData → (PyData → Prop) → Prop := fun d Q => match isiD T d with
  | some b => Q (.bool b)
  | none => False
section
variable {W : Wd} {H0 : Hp} {X : Cx} {a b c e : Expr} {es : List Expr} {we wa wb : WE} {wp : WP} {pos p p2 : Pos} {x : Str} {id T : String}
theorem de_isi {y : Str} (he : DE W X e we) (hg : Gl X "isinstance") (hm : X.mg "isinstance" = none) (hg2 : Gl X y) (hm2 : X.mg y = none) (hb : bootBuiltins y = some (.type T)) (hn : y ≠ "__name__" := by decide) (hdb : (y == ("__debug__" : Str)) = false := by decide)
    (hs : starEach [e, .Name y p2] X.env = (false, eval e X.env) :: starEach [.Name y p2] X.env := by rfl) (hs2 : starEach [.Name y p2] X.env = (false, eval (.Name y p2) X.env) :: starEach [] X.env := by rfl) (hpl : (backTo pos (starEach [.Name y p2] X.env)).any (·.1) = false := by rfl) :
    DE W X (.Call (.Name "isinstance" p) [e, .Name y p2] [] pos) (wUn (rIsiD T) we) :=
  pe_weak (pe_callB call_isi hg hm PyProof.Rows.boot_isinstance (pa_cons he (pa_cons (pe_bltn (v := .ty T) hg2 hm2 hb rfl hn hdb) pa_nil hs2) hs) (by decide) (by decide) hs hpl) fun σ H Q h => by
    obtain ⟨F, ρ, H0, P, g, ev, h, k⟩ := h
    refine ⟨F, ρ, H0, _, g, ev, h, fun d q v F1 H1 g1 r1 rp => ?_⟩
    unfold rIsiD at q
    cases z : isiD T d with
    | none => rw [z] at q; exact q.elim
    | some b =>
      rw [z] at q
      obtain ⟨t, ht, hk⟩ := isi_kit (K := X.K) (rp_mono g1.sub _ _ rp) z
      exact ⟨v, .ty T, t, .type T, b, rfl, .ty T, ht, hk, (k.then r1).val g1 q (.bl b)⟩
/-! ### x in T, T a tuple of texts that the module holds -/
def inStrs (x : PyData) (zs : List Str) : PyData → Prop := fun _ => True
def rInG (neg : Bool) (zs : List Str) : PyData → (PyData → Prop) → Prop := fun d Q => match d with
  | .str x => Q (.bool (if neg then !(zs.contains x) else zs.contains x))
  | _ => False
theorem inV_strs (x : Str) : ∀ zs : List Str, inV (.str x) (zs.map V.str) = zs.contains x
  | [] => rfl
  | z :: zs => by
    have i := inV_strs x zs
    unfold inV at i ⊢
    rw [List.map_cons, List.any_cons, i, List.contains_cons]
    show ((z == x) || _) = ((x == z) || _)
    congr 1
    by_cases h : x = z
    · rw [h]
    · rw [beq_false_of_ne h, beq_false_of_ne (fun q => h q.symm)]
theorem de_inG {neg : Bool} {op : CmpOp} {T : Str} {f : Addr} {zs : List Str} (ho : OpR X (compareOp op) (rIn X.K neg)) (ha : DE W X a wa) (hg : Gl X T) (hm : X.mg T = some (.ref f)) (hk : ∀ H, SqT X.K H f (zs.map V.str)) (hb : behindInMarks op (.Name T p) = false := by rfl) (hd : (T == ("__debug__" : Str)) = false := by decide) :
    DE W X (.Compare a [op] [.Name T p] pos) (wUn (rInG neg zs) wa) := pe_weak (pe_cmpR ho ha (pe_glob (v := .ref f) hg hm rfl hd) hb) fun σ H Q h => by
  obtain ⟨F, ρ, H0, P, g, ev, h, k⟩ := h
  refine ⟨F, ρ, H0, _, g, ev, h, fun d q v F1 H1 g1 r1 rp => ?_⟩
  cases d with
  | str x =>
    cases rp
    refine ⟨f, _, rfl, .inr (hk H1), rfl, ?_, ?_⟩
    · rw [List.all_map]
      exact List.all_eq_true.mpr fun _ _ => rfl
    · rw [inV_strs]
      exact (k.then r1).val g1 q (.bl _)
  | _ => exact q.elim
theorem t_inG {neg : Bool} {f : Addr} {zs : List Str} {σ : L2.St} {H : Hp} {Q : VK} (hk : ∀ H, SqT X.K H f (zs.map V.str)) (h : lE X.K W (wUn (rInG neg zs) wa) σ H Q) : tOp (rIn X.K neg) (lE X.K W wa) (tC (.ref f)) σ H Q := by
  obtain ⟨F, ρ, H0, P, g, ev, h, k⟩ := h
  refine ⟨F, ρ, H0, _, g, ev, h, fun d q v F1 H1 g1 r1 rp => ?_⟩
  cases d with
  | str x =>
    cases rp
    refine ⟨f, _, rfl, .inr (hk H1), rfl, ?_, ?_⟩
    · rw [List.all_map]
      exact List.all_eq_true.mpr fun _ _ => rfl
    · rw [inV_strs]
      exact (k.then r1).val g1 q (.bl _)
  | _ => exact q.elim
theorem dt_inG {neg : Bool} {op : CmpOp} {T : Str} {f : Addr} {zs : List Str} (ho : OpR X (compareOp op) (rIn X.K neg)) (ha : DE W X a wa) (hg : Gl X T) (hm : X.mg T = some (.ref f)) (hk : ∀ H, SqT X.K H f (zs.map V.str)) (hb : behindInMarks op (.Name T p) = false := by rfl) (hd : (T == ("__debug__" : Str)) = false := by decide) :
    DT W X (.Compare a [op] [.Name T p] pos) (wTst (wUn (rInG neg zs) wa)) := pt_weak (pt_cmpR ho ha (pe_glob (v := .ref f) hg hm rfl hd) hb) fun σ H Q h => t_tst (fun _ _ _ => t_inG hk) h
/-! ### dicts -/
def keyD : PyData → Option Key
  | .int i => some (.inl i)
  | .str x => some (.inr x)
  | _ => none
def keysD : List PyData → Option (List Key)
  | [] => some []
  | d :: r => match keyD d, keysD r with
    | some k, some ks => some (k :: ks)
    | _, _ => none
def tkeyD : PyData → Option (List Key)
  | .tuple ds => keysD ds
  | _ => none
section
variable {κ : Type} [DecidableEq κ]
def valD (kvs : List (κ × PyData)) (k : κ) : Option PyData := (kvs.find? fun kv => decide (kv.1 = k)).map (·.2)
def putD (kvs : List (κ × PyData)) (k : κ) (v : PyData) : List (κ × PyData) :=
  if (kvs.any fun kv => decide (kv.1 = k)) = true then kvs.map (fun kv => if kv.1 = k then (kv.1, v) else kv) else kvs ++ [(k, v)]
theorem kv_val {K : PySem.W.Frag} {F : Hp} (k : κ) {xs : List (κ × V)} {ys : List (κ × PyData)} (h : KvAll K F xs ys) : (valV xs k = none ∧ valD ys k = none) ∨ ∃ v d, valV xs k = some v ∧ valD ys k = some d ∧ Rp K F v d := by
  induction h with
  | nil => exact .inl ⟨rfl, rfl⟩
  | @cons p q xs ys r t ih =>
    by_cases e : p.1 = k
    · refine .inr ⟨p.2, q.2, ?_, ?_, r.2⟩
      · rw [valV_pos e]
      · unfold valD
        rw [List.find?_cons, decide_eq_true (r.1.symm.trans e)]
        rfl
    · have e' : ¬ q.1 = k := fun z => e (r.1.trans z)
      have h2 : valD (q :: ys) k = valD ys k := by
        unfold valD
        rw [List.find?_cons, decide_eq_false e']
      rw [valV_neg e, h2]
      exact ih
theorem kv_any {K : PySem.W.Frag} {F : Hp} (k : κ) {xs : List (κ × V)} {ys : List (κ × PyData)} (h : KvAll K F xs ys) : (xs.any fun kv => decide (kv.1 = k)) = ys.any fun kv => decide (kv.1 = k) := by
  induction h with
  | nil => rfl
  | cons r t ih => rw [List.any_cons, List.any_cons, ih, r.1]
theorem kv_len {κ : Type} {K : PySem.W.Frag} {F : Hp} {xs : List (κ × V)} {ys : List (κ × PyData)} (h : KvAll K F xs ys) : xs.length = ys.length := Paired.length h
theorem kv_map {K : PySem.W.Frag} {F : Hp} (k : κ) {v : V} {d : PyData} (rv : Rp K F v d) {xs : List (κ × V)} {ys : List (κ × PyData)} (h : KvAll K F xs ys) : KvAll K F (xs.map fun kv => if kv.1 = k then (kv.1, v) else kv) (ys.map fun kv => if kv.1 = k then (kv.1, d) else kv) := by
  induction h with
  | nil => exact .nil
  | @cons p q xs ys r t ih =>
    rw [List.map_cons, List.map_cons]
    refine .cons ?_ ih
    by_cases e : p.1 = k
    · rw [if_pos e, if_pos (r.1.symm.trans e)]
      exact ⟨r.1, rv⟩
    · rw [if_neg e, if_neg (fun z => e (r.1.trans z))]
      exact r
theorem kv_snoc {K : PySem.W.Frag} {F : Hp} (k : κ) {v : V} {d : PyData} (rv : Rp K F v d) {xs : List (κ × V)} {ys : List (κ × PyData)} (h : KvAll K F xs ys) : KvAll K F (xs ++ [(k, v)]) (ys ++ [(k, d)]) := by
  induction h with
  | nil => exact .cons ⟨rfl, rv⟩ .nil
  | cons r t ih => exact .cons r ih
theorem kv_put {K : PySem.W.Frag} {F : Hp} (k : κ) {v : V} {d : PyData} (rv : Rp K F v d) {xs : List (κ × V)} {ys : List (κ × PyData)} (h : KvAll K F xs ys) : KvAll K F (putK xs k v) (putD ys k d) := by
  unfold putK putD
  rw [kv_any k h]
  split
  · exact kv_map k rv h
  · exact kv_snoc k rv h
end
theorem key_v {K : PySem.W.Frag} {F : Hp} {v : V} {d : PyData} {k : Key} (r : Rp K F v d) (e : keyD d = some k) : v = kV k := by
  cases r <;> first | (cases e; rfl) | cases e
theorem keys_v {K : PySem.W.Frag} {F : Hp} : ∀ {vs : List V} {ds : List PyData} {ks : List Key}, RpAll K F vs ds → keysD ds = some ks → vs = ks.map kV
  | [], _, ks, h, e => by cases h; cases e; rfl
  | _ :: _, _, ks, h, e => by
    cases h with
    | @cons _ _ d ds h1 h2 =>
      unfold keysD at e
      cases e1 : keyD d with
      | none => rw [e1] at e; cases e
      | some k =>
        cases e2 : keysD ds with
        | none => rw [e1, e2] at e; cases e
        | some kr =>
          rw [e1, e2] at e
          cases e
          rw [List.map_cons, key_v h1 e1, keys_v h2 e2]
theorem tkey_v {K : PySem.W.Frag} {F : Hp} {v : V} {d : PyData} {ks : List Key} (r : Rp K F v d) (e : tkeyD d = some ks) : ∃ b, v = .ref b ∧ F b = some (.tup (ks.map kV)) := by
  cases r with
  | tup hs ha =>
    have z := keys_v ha e
    subst z
    exact ⟨_, rfl, hs⟩
  | _ => cases e
/-- d[y], y in d, of a slot's dict -/
def atDic (b : Bd) (y : PyData) (Q : Option PyData → Prop) : Prop := match b with
  | .dK kvs => (match keyD y with
    | some k => Q (valD kvs k)
    | none => False)
  | .dT kvs => (match tkeyD y with
    | some k => Q (valD kvs k)
    | none => False)
  | _ => False
theorem dic_get {K : PySem.W.Frag} {F H : Hp} {σ : L2.St} {ρ : En} (g : Gd W F H) (ev : EnvOk K W H0 F H σ ρ) {i : Nat} {y : V} {dy : PyData} (ry : Rp K F y dy) {Q : Option PyData → Prop} (h : atDic (ρ.getD i .no) dy Q) :
    ∃ a o od, σ.getD i none = some (.ref a) ∧ DGet H a y o ∧ Q od ∧ ((o = none ∧ od = none) ∨ ∃ v d, o = some v ∧ od = some d ∧ Rp K F v d) := by
  have q := ev.slot i
  cases z : ρ.getD i .no with
  | dK kvs =>
    rw [z] at q h
    obtain ⟨a, xs, e1, e2, e3, _⟩ := q
    unfold atDic at h
    dsimp only at h
    cases ek : keyD dy with
    | none => rw [ek] at h; exact h.elim
    | some k =>
      rw [ek] at h
      cases key_v ry ek
      exact ⟨a, valV xs k, valD kvs k, e1, DGet.k e2, h, kv_val k e3⟩
  | dT kvs =>
    rw [z] at q h
    obtain ⟨a, xs, e1, e2, e3, _⟩ := q
    unfold atDic at h
    dsimp only at h
    cases ek : tkeyD dy with
    | none => rw [ek] at h; exact h.elim
    | some k =>
      rw [ek] at h
      obtain ⟨b, rfl, hb⟩ := tkey_v ry ek
      exact ⟨a, valV xs k, valD kvs k, e1, DGet.t e2 (g.sub _ _ hb), h, kv_val k e3⟩
  | _ => rw [z] at h; exact h.elim
def wDGet (i : Nat) (wy : WE) : WE := fun ρ Q => wy ρ fun y => atDic (ρ.getD i .no) y fun o => ∃ d, o = some d ∧ Q d
theorem slot_ref {K : PySem.W.Frag} {F H F1 H1 : Hp} {σ : L2.St} {ρ : En} (ev : EnvOk K W H0 F H σ ρ) {i : Nat} {v : V} (h : σ.getD i none = some v) : σ[i]? = some (some v) := getD_some h
variable {wy : WE}
theorem dic_ref {K : PySem.W.Frag} {F H : Hp} {σ : L2.St} {ρ : En} (ev : EnvOk K W H0 F H σ ρ) {i : Nat} (h : ∃ y Q, atDic (ρ.getD i .no) y Q) : True := trivial
/-- whether the slot holds a dict -/
def isDic : Bd → Prop
  | .dK _ => True
  | .dT _ => True
  | _ => False
theorem dic_slot {K : PySem.W.Frag} {F H : Hp} {σ : L2.St} {ρ : En} (ev : EnvOk K W H0 F H σ ρ) {i : Nat} (h : isDic (ρ.getD i .no)) : ∃ a, σ.getD i none = some (.ref a) := by
  have q := ev.slot i
  cases z : ρ.getD i .no with
  | dK kvs =>
    rw [z] at q
    obtain ⟨a, xs, e1, _⟩ := q
    exact ⟨a, e1⟩
  | dT kvs =>
    rw [z] at q
    obtain ⟨a, xs, e1, _⟩ := q
    exact ⟨a, e1⟩
  | _ => rw [z] at h; exact h.elim
def wDGt (i : Nat) (wy : WE) : WE := fun ρ Q => isDic (ρ.getD i .no) ∧ wDGet i wy ρ Q
theorem de_dget (i : Nat) (hu : X.A.units + 1 < cLine) (hi : DE W X b wy) (hs : NoSl b) (hN : X.N[i]? = some x := by rfl) (hv : Vis X.env.scope x := by first | exact Or.inl rfl | exact Or.inr (Or.inl rfl) | exact Or.inr (Or.inr rfl)) (hd : (x == ("__debug__" : Str)) = false := by decide)
    (hcd : (x == ("__classdict__" : Str)) = false := by decide) : DE W X (.Subscript (.Name x p) b pos) (wDGt i wy) := pe_weak (pe_dget hu (pe_var hN hv hd hcd) hi hs) fun σ H Q h => by
  obtain ⟨F, ρ, H0, P, g, ev, ⟨hdic, h⟩, k⟩ := h
  obtain ⟨a, ea⟩ := dic_slot ev hdic
  refine ⟨_, getD_some ea, F, ρ, H0, _, g, ev, h, fun dy q v F1 H1 g1 r1 rp => ?_⟩
  obtain ⟨a', o, od, e1, hg, hq, hr⟩ := dic_get g1 (ev.grow r1) rp q
  rw [ea] at e1
  cases e1
  obtain ⟨d, rfl, pd⟩ := hq
  rcases hr with ⟨_, z⟩ | ⟨u, d', rfl, z, ru⟩
  · cases z
  · cases z
    exact ⟨a, u, rfl, hg, (k.then r1).val g1 pd ru⟩
def wDIn (neg : Bool) (i : Nat) (wy : WE) : WE := fun ρ Q => wy ρ fun y => isDic (ρ.getD i .no) ∧ atDic (ρ.getD i .no) y fun o => Q (.bool (if neg then !o.isSome else o.isSome))
theorem t_din {K : PySem.W.Frag} {i : Nat} {σ : L2.St} {H : Hp} {Q : VK} (h : lE K W (wDIn false i wy) σ H Q) : tDIn (lE K W wy) (tVar i) σ H Q := by
  obtain ⟨F, ρ, H0, P, g, ev, h, k⟩ := h
  refine ⟨F, ρ, H0, _, g, ev, h, fun dy q v F1 H1 g1 r1 rp => ?_⟩
  obtain ⟨a, o, od, e1, hg, hq, hr⟩ := dic_get g1 (ev.grow r1) rp q.2
  have es : o.isSome = od.isSome := by
    rcases hr with ⟨z1, z2⟩ | ⟨u, d, z1, z2, _⟩
    · rw [z1, z2]; rfl
    · rw [z1, z2]; rfl
  refine ⟨_, getD_some e1, a, o, rfl, hg, ?_⟩
  rw [es]
  exact (k.then r1).val g1 hq (.bl _)
theorem t_dnin {K : PySem.W.Frag} {i : Nat} {σ : L2.St} {H : Hp} {Q : VK} (h : lE K W (wDIn true i wy) σ H Q) : tDNotIn (lE K W wy) (tVar i) σ H Q := by
  obtain ⟨F, ρ, H0, P, g, ev, h, k⟩ := h
  refine ⟨F, ρ, H0, _, g, ev, h, fun dy q v F1 H1 g1 r1 rp => ?_⟩
  obtain ⟨a, o, od, e1, hg, hq, hr⟩ := dic_get g1 (ev.grow r1) rp q.2
  have es : o.isSome = od.isSome := by
    rcases hr with ⟨z1, z2⟩ | ⟨u, d, z1, z2, _⟩
    · rw [z1, z2]; rfl
    · rw [z1, z2]; rfl
  refine ⟨_, getD_some e1, a, o, rfl, hg, ?_⟩
  rw [es]
  exact (k.then r1).val g1 hq (.bl _)
theorem dt_din (i : Nat) (hu : X.A.units + 1 < cLine) (hi : DE W X b wy) (hN : X.N[i]? = some x := by rfl) (hv : Vis X.env.scope x := by first | exact Or.inl rfl | exact Or.inr (Or.inl rfl) | exact Or.inr (Or.inr rfl)) (hd : (x == ("__debug__" : Str)) = false := by decide)
    (hcd : (x == ("__classdict__" : Str)) = false := by decide) (h1 : behindInMarks .In (.Name x p) = false := by rfl) : DT W X (.Compare b [.In] [.Name x p] pos) (wTst (wDIn false i wy)) :=
  pt_weak (pt_cmp (pc_din hu hi (pe_var hN hv hd hcd)) h1) fun σ H Q h => t_tst (fun _ _ _ => t_din) h
theorem dt_dnin (i : Nat) (hu : X.A.units + 1 < cLine) (hi : DE W X b wy) (hN : X.N[i]? = some x := by rfl) (hv : Vis X.env.scope x := by first | exact Or.inl rfl | exact Or.inr (Or.inl rfl) | exact Or.inr (Or.inr rfl)) (hd : (x == ("__debug__" : Str)) = false := by decide)
    (hcd : (x == ("__classdict__" : Str)) = false := by decide) (h1 : behindInMarks .NotIn (.Name x p) = false := by rfl) : DT W X (.Compare b [.NotIn] [.Name x p] pos) (wTst (wDIn true i wy)) :=
  pt_weak (pt_cmp (pc_dnotin hu hi (pe_var hN hv hd hcd)) h1) fun σ H Q h => t_tst (fun _ _ _ => t_dnin) h
/-- d[y] = v of a slot's dict -/
def putDic (b : Bd) (y v : PyData) (Q : Bd → Prop) : Prop := match b with
  | .dK kvs => (match keyD y with
    | some k => kvs.length < sizeLine ∧ Q (.dK (putD kvs k v))
    | none => False)
  | .dT kvs => (match tkeyD y with
    | some k => kvs.length < sizeLine ∧ Q (.dT (putD kvs k v))
    | none => False)
  | _ => False
def wDPut (i : Nat) (wy wv : WE) : WS := fun E ρ => wv ρ fun v => isDic (ρ.getD i .no) ∧ wy ρ fun y => putDic (ρ.getD i .no) y v fun b => E.nx (ρ.set i b)
theorem dic_put {K : PySem.W.Frag} {F H : Hp} {σ : L2.St} {ρ : En} (g : Gd W F H) (ev : EnvOk K W H0 F H σ ρ) {i : Nat} {y v : V} {dy dv : PyData} (ry : Rp K F y dy) (rv : Rp K F v dv) {Q : Bd → Prop} (h : putDic (ρ.getD i .no) dy dv Q) :
    ∃ a o b, σ.getD i none = some (.ref a) ∧ DPut H a y v (upd H a o) ∧ Q b ∧ EnvOk K W H0 F (upd H a o) σ (ρ.set i b) ∧ F a = none ∧ ¬ W.M a ∧ H0 a = none ∧ ∀ xs, o ≠ .tup xs := by
  have q := ev.slot i
  cases z : ρ.getD i .no with
  | dK kvs =>
    rw [z] at q h
    obtain ⟨a, xs, e1, e2, e3, e4, e5, e6⟩ := q
    unfold putDic at h
    dsimp only at h
    cases ek : keyD dy with
    | none => rw [ek] at h; exact h.elim
    | some k =>
      rw [ek] at h
      cases key_v ry ek
      exact ⟨a, _, _, e1, DPut.k e2 (by rw [kv_len e3]; exact h.1), h.2, ev.chg (by rw [z]; exact trivial) e1 trivial ⟨a, _, rfl, upd_same, kv_put k rv e3, e4, e5, e6⟩, e4, e5, e6, fun _ z => (nomatch z)⟩
  | dT kvs =>
    rw [z] at q h
    obtain ⟨a, xs, e1, e2, e3, e4, e5, e6⟩ := q
    unfold putDic at h
    dsimp only at h
    cases ek : tkeyD dy with
    | none => rw [ek] at h; exact h.elim
    | some k =>
      rw [ek] at h
      obtain ⟨b, rfl, hb⟩ := tkey_v ry ek
      exact ⟨a, _, _, e1, DPut.t e2 (g.sub _ _ hb) (by rw [kv_len e3]; exact h.1), h.2, ev.chg (by rw [z]; exact trivial) e1 trivial ⟨a, _, rfl, upd_same, kv_put k rv e3, e4, e5, e6⟩, e4, e5, e6, fun _ z => (nomatch z)⟩
  | _ => rw [z] at h; exact h.elim
theorem ds_dput (i : Nat) {pos' : Pos} {wv : WE} {value : Expr} (hu : X.A.units + 1 < cLine) (hi : DE W X b wy) (hv : DE W X value wv) (hN : X.N[i]? = some x := by rfl) (hvi : Vis X.env.scope x := by first | exact Or.inl rfl | exact Or.inr (Or.inl rfl) | exact Or.inr (Or.inr rfl)) (hd : (x == ("__debug__" : Str)) = false := by decide)
    (hcd : (x == ("__classdict__" : Str)) = false := by decide) (hs : swapsWith value (some (.Subscript (.Name x p) b pos')) pos.line X.env = pure false := by rfl) :
    DS W H0 X (.Assign [.Subscript (.Name x p) b pos'] value pos) (wDPut i wy wv) := ps_weak (ps_dput hu (pe_var hN hvi hd hcd) hi hv hs) fun D σ H h => by
  obtain ⟨F0, F, ρ, E, gd, r, ev, h, im⟩ := h
  refine ⟨F, ρ, H0, _, gd, ev, h, fun dv q v F1 H1 g1 r1 rv => ?_⟩
  obtain ⟨hdic, q⟩ := q
  obtain ⟨a, ea⟩ := dic_slot ev hdic
  refine ⟨_, getD_some ea, F1, ρ, H0, _, g1, ev.grow r1, q, fun dy qy y F2 H2 g2 r2 ry => ?_⟩
  obtain ⟨a', o, b, e1, hput, hq, ev', e4, e5, e6, e7⟩ := dic_put g2 ((ev.grow r1).grow r2) ry (rp_mono r2.f _ _ rv) qy
  rw [ea] at e1
  cases e1
  exact ⟨a, _, rfl, hput, im.nx _ hq σ F2 _ (g2.free e4 e5 e7) (((r.trans r1).trans r2).chg e6) ev'⟩
/-- a slot takes a new dict -/
def lN (K : PySem.W.Frag) (W : Wd) (dk : Bool) : TE := fun σ H Q => ∃ F ρ H0, Gd W F H ∧ EnvOk K W H0 F H σ ρ ∧ ∀ p, H p = none → Q (.ref p) (upd H p (if dk then .dK [] else .dT []))
/-- target slots i (data) and j (a new dict): a, b = e, {} where b is a cell -/
def wSetD (i : Nat) (dk : Bool) : WS := fun E ρ => E.nx (ρ.set i (if dk then .dK [] else .dT []))
theorem new_dic {K : PySem.W.Frag} {F H : Hp} {σ : L2.St} {ρ : En} (g : Gd W F H) (ev : EnvOk K W H0 F H σ ρ) {dk : Bool} {i : Nat} {p : Addr} (hp : H p = none) (h0 : H0 p = none) :
    EnvOk K W H0 F (upd H p (if dk then .dK [] else .dT [])) (σ.set i (some (.ref p))) (ρ.set i (if dk then .dK [] else .dT [])) := by
  have ev' := ev.grow (Gr.new (W := W) (F := F) (o := if dk then HO.dK [] else HO.dT []) hp)
  refine ev'.set i ?_ fun _ c j hc oj ej => ?_
  · cases dk with
    | true => exact ⟨p, [], rfl, upd_same, .nil, g.fnone hp, g.notM hp, h0⟩
    | false => exact ⟨p, [], rfl, upd_same, .nil, g.fnone hp, g.notM hp, h0⟩
  · cases hc
    exact (ev.owned oj ej).1 hp
end
end Qd
set_option maxHeartbeats 2000000
namespace Qd
open PySem PySem.Spec PyProof.Rows L2

section
variable {W : Wd} {H0 : Hp} {X : Cx} {a b c e : Expr} {es : List Expr} {we wa wb wc : WE} {wp : WP} {pos p : Pos} {x : Str} {id T : String}
/-- name = [..] on one line, the name a local: frozen -/
theorem ds_setLcV {i : Nat} {y : Str} {py spos : Pos} {elt tg iter : Expr} {ifs : List Expr} {scope : Scope} {own : List (Str × Nat)} {wl : WP} {g : WG} {tt : WT} {te : WE} (hc : X.calm = true) (hN : X.N.Nodup) (hy : X.N[i]? = some y) (hyl : X.env.scope.names.lookup y = some .local)
    (hsw : swapsWith (.ListComp elt [⟨tg, iter, ifs, 0⟩] scope pos) (some (.Name y py)) spos.line X.env = pure true) (hi : DI W X tg iter wl) (ok : BlkOk X.N X.env.scope scope own)
    (hg : ∀ (s : Shared) (H : Hp) (C : Addr) (cl : List (Str × Addr)) (fp : List Addr), DG W (X.blk s H scope (compEnvC scope cl C X.env) fp) (some (own.map (·.2))) tg g) (ht : ∀ (s : Shared) (H : Hp) (C : Addr) (cl : List (Str × Addr)) (fp : List Addr), DTs W (X.blk s H scope (compEnvC scope cl C X.env) fp) ifs tt)
    (he : ∀ (s : Shared) (H : Hp) (C : Addr) (cl : List (Str × Addr)) (fp : List Addr), DE W (X.blk s H scope (compEnvC scope cl C X.env) fp) elt te) (hs : ∀ x, foldedSetIterable iter X.env x = pure x := by intro _; rfl) :
    DS W H0 X (.Assign [.Name y py] (.ListComp elt [⟨tg, iter, ifs, 0⟩] scope pos) spos) (wSet i (wFz (wLc wl g tt te (own.map (·.2))))) := ps_weak (ps_setLc (g := lG X.K W (some (own.map (·.2))) g) (tt := lT X.K W tt) (te := lE X.K W te) hc hN hy hyl hsw hi ok hg ht he hs) fun D σ H h => by
  have frz : ∀ σ H Q, lE X.K W (wFz (wLc wl g tt te (own.map (·.2)))) σ H Q → tLc (lI X.K W wl) (lG X.K W (some (own.map (·.2))) g) (lT X.K W tt) (lE X.K W te) (own.map (·.2)) σ H Q := fun σ H Q h => by
    obtain ⟨F, ρ, H0, P, gd, ev, h, k⟩ := h
    refine ⟨F, ρ, H0, _, gd, ev, h, fun ds q J F1 H1 g1 r1 it D hD => lc_run gd g1 r1 (ev.grow r1) it hD q fun ds p a xs F' H' gd' gr hn ha hf dp => ?_⟩
    have fF : ∀ b u, F' b = some u → upd F' a (.lst xs) b = some u := fun b u q => by
      rw [upd_ne (fun z => by rw [z, hf] at q; cases q)]
      exact q
    have nm : ¬ W.M a := gd.notM hn
    refine k _ p _ (upd F' a (.lst xs)) H' ⟨fun b u q => ?_, fun b m => ?_, gd'.mh, W.stab _ _ _ _ gd'.j fF (fun _ _ => rfl), fun b ys q => fF b _ (gd'.tp b ys q)⟩ ⟨fun b u q => fF b u (gr.f b u q), fun b q => ?_, gr.h, gr.k⟩ (.lst (.inl upd_same) (rpAll_mono fF _ _ dp))
    · by_cases z : b = a
      · rw [z, upd_same] at q
        rw [z, ha]
        exact q
      · rw [upd_ne z] at q
        exact gd'.sub b u q
    · rw [upd_ne (fun z => nm (by rw [← z]; exact m))]
      exact gd'.mf b m
    · rw [upd_ne (fun z => q (by rw [z]; exact hn))]
      exact gr.n b q
  have h2 := t_set h
  exact frz σ H _ h2
/-! len of a slot's dict -/
def wDLen (i : Nat) : WE := fun ρ Q => match ρ.getD i .no with
  | .dK kvs => Q (.int (kvs.length : Int))
  | _ => False
theorem de_dlen (i : Nat) {y : Str} {q : Pos} (hg : Gl X "len") (hm : X.mg "len" = none) (hN : X.N[i]? = some y := by rfl) (hv : Vis X.env.scope y := by first | exact Or.inl rfl | exact Or.inr (Or.inl rfl) | exact Or.inr (Or.inr rfl)) (hd : (y == ("__debug__" : Str)) = false := by decide)
    (hcd : (y == ("__classdict__" : Str)) = false := by decide) (hs : starEach [.Name y q] X.env = (false, eval (.Name y q) X.env) :: starEach [] X.env := by rfl) : DE W X (.Call (.Name "len" p) [.Name y q] [] pos) (wDLen i) :=
  pe_weak (pe_callB call_lenD hg hm PySem.boot_len (pa_cons (pe_var hN hv hd hcd) pa_nil hs) (by decide) (by decide) hs rfl) fun σ H Q h => by
    obtain ⟨F, ρ, H0, P, g, ev, h, k⟩ := h
    unfold wDLen at h
    have z := ev.slot i
    cases e : ρ.getD i .no with
    | dK kvs =>
      rw [e] at h z
      obtain ⟨a, xs, e1, e2, e3, _⟩ := z
      refine ⟨_, getD_some e1, a, xs, rfl, e2, ?_⟩
      rw [kv_len e3]
      exact k.val g h (.int _)
    | _ => rw [e] at h; exact h.elim
/-! sorted of a slot's dict of ints -/
def intsK {α : Type} : List (Key × α) → Option (List Int)
  | [] => some []
  | (.inl i, _) :: r => (intsK r).map (i :: ·)
  | _ => none
theorem intsK_v {K : PySem.W.Frag} {F : Hp} {xs : List (Key × V)} {ys : List (Key × PyData)} (h : KvAll K F xs ys) : ∀ {ns : List Int}, intsK ys = some ns → xs.map (·.1) = ns.map Sum.inl := by
  induction h with
  | nil => intro ns e; cases e; rfl
  | @cons p q xs ys r t ih =>
    intro ns e
    obtain ⟨k, d⟩ := q
    cases k with
    | inl i =>
      have e : (intsK ys).map (i :: ·) = some ns := e
      cases z : intsK ys with
      | none => rw [z] at e; cases e
      | some m =>
        rw [z] at e
        cases e
        rw [List.map_cons, List.map_cons, ih z, r.1]
    | inr _ => cases e
theorem rp_ints {K : PySem.W.Frag} {F : Hp} : ∀ ns : List Int, RpAll K F (ns.map V.int) (ns.map PyData.int)
  | [] => .nil
  | i :: r => .cons (.int i) (rp_ints r)
def wSortD (i : Nat) : WP := fun ρ Q => match ρ.getD i .no with
  | .dK kvs => (match intsK kvs with
    | some ns => ns.length < 64 ∧ ∀ ys : List Int, ys.Perm ns → ys.Pairwise (· ≤ ·) → Q (ys.map PyData.int)
    | none => False)
  | _ => False
theorem df_sortD (i : Nat) {y : Str} {q : Pos} (hcalm : X.calm = true) (hg : Gl X "sorted") (hm : X.mg "sorted" = none) (hN : X.N[i]? = some y := by rfl) (hv : Vis X.env.scope y := by first | exact Or.inl rfl | exact Or.inr (Or.inl rfl) | exact Or.inr (Or.inr rfl)) (hd : (y == ("__debug__" : Str)) = false := by decide)
    (hcd : (y == ("__classdict__" : Str)) = false := by decide) (hs : starEach [.Name y q] X.env = (false, eval (.Name y q) X.env) :: starEach [] X.env := by rfl) : DF W X (.Call (.Name "sorted" p) [.Name y q] [] pos) (wSortD i) :=
  pe_weak (pe_callB (call_sortedDI hcalm) hg hm PyProof.Rows.boot_sorted (pa_cons (pe_var hN hv hd hcd) pa_nil hs) (by decide) (by decide) hs rfl) fun σ H Q h => by
    obtain ⟨F, ρ, H0, P, g, ev, h, k⟩ := h
    unfold wSortD at h
    have z := ev.slot i
    cases e : ρ.getD i .no with
    | dK kvs =>
      rw [e] at h z
      obtain ⟨a, xs, e1, e2, e3, _⟩ := z
      dsimp only at h
      cases ei : intsK kvs with
      | none => rw [ei] at h; exact h.elim
      | some ns =>
        rw [ei] at h
        refine ⟨_, getD_some e1, a, xs, ns, rfl, .inl e2, intsK_v e3 ei, h.1, fun ys p hp hy hn => ?_⟩
        exact k _ (h.2 ys hp hy) p _ F _ (g.free (g.fnone hn) (g.notM hn)) (Gr.new hn) hn upd_same (g.fnone hn) (rp_ints ys)
    | _ => rw [e] at h; exact h.elim
/-! a, b = {}, [..]; a, b, c = x, y, z -/
def wParDO (i j : Nat) (wb : WP) : WS := fun E ρ => wb ρ fun ys => E.nx ((ρ.set i (.dK [])).set j (.lst ys))
theorem ds_parDO {i j : Nat} {x y : Str} {wb : WP} {p1 px py pt : Pos} {kt k2 pt2} (hc : X.calm = true) (hN : X.N.Nodup) (hi : X.N[i]? = some x) (hj : X.N[j]? = some y) (hij : i ≠ j)
    (hx : X.env.scope.names.lookup x = some .local) (hy : X.env.scope.names.lookup y = some .local) (hb : DF W X b wb)
    (hw : swappedStores [.Tuple [.Name x px, .Name y py] kt pt] (.Tuple [.Dict [] [] p1, b] k2 pt2) X.env = pure (some [x, y]))
    (hs : swapsWithSole [.Tuple [.Name x px, .Name y py] kt pt] (.Tuple [.Dict [] [] p1, b] k2 pt2) pos.line X.env = pure false := by rfl)
    (hs1 : starEach [.Dict [] [] p1, b] X.env = (false, eval (.Dict [] [] p1) X.env) :: starEach [b] X.env := by rfl) (hs2 : starEach [b] X.env = (false, eval b X.env) :: starEach [] X.env := by rfl) :
    DS W H0 X (.Assign [.Tuple [.Name x px, .Name y py] kt pt] (.Tuple [.Dict [] [] p1, b] k2 pt2) pos) (wParDO i j wb) :=
  ps_weak (ps_par hc hN hi hj hij hx hy (pa_cons pe_dnewK (pa_cons hb pa_nil hs2) hs1) hw hs) fun D σ H h => by
    obtain ⟨F0, F, ρ, E, gd, r, ev, h, im⟩ := h
    refine fun q hq => ?_
    have g1 : Gd W F (upd H q (.dK [])) := gd.free (gd.fnone hq) (gd.notM hq)
    have r1 : Gr W F H F (upd H q (.dK [])) := Gr.new hq
    have h0q : H0 q = none := r.none_of hq
    have nmq : ¬ W.M q := gd.notM hq
    refine ⟨F, ρ, H0, _, g1, ev.grow r1, h, fun ds2 q2 p2 xs2 F2 H2 g2 r2 hn2 ha2 hf2 rp2 => ?_⟩
    have hp1 : upd H q (.dK []) q ≠ none := by rw [upd_same]; simp
    have ne : q ≠ p2 := fun z => hp1 (by rw [z] at hn2 ⊢; exact hn2)
    have hp2 : H p2 = none := r1.none_of hn2
    have ev2 := (ev.grow r1).grow r2
    refine ⟨_, _, rfl, im.nx _ q2 _ F2 H2 g2 ((r.trans r1).trans r2) ?_⟩
    have eq2 : H2 q = some (.dK []) := r2.h _ _ nmq upd_same
    have ev3 := ev2.set i (v := .ref q) (b := .dK []) ⟨q, [], rfl, eq2, .nil, (r2.n q hp1).trans (gd.fnone hq), nmq, h0q⟩ fun _ c k hc ok ek => by
      cases hc
      exact (ev.owned ok ek).1 hq
    refine ev3.set j (v := .ref p2) (b := .lst ds2) ⟨p2, xs2, rfl, ha2, rp2, hf2, g1.notM hn2, r.none_of hp2⟩ fun _ c k hc ok ek => ?_
    cases hc
    rw [getD_set] at ok ek
    rw [ev.len] at ek
    by_cases z : i = k ∧ k < ρ.length
    · rw [if_pos z] at ek
      exact ne (V.ref.inj (Option.some.inj ek))
    · rw [if_neg z] at ok ek
      exact ((ev.grow r1).owned ok ek).1 hn2
def wPar3 (i j l : Nat) (wa wb wc : WE) : WS := fun E ρ => wa ρ fun x => wb ρ fun y => wc ρ fun z => E.nx (((ρ.set i (.val x)).set j (.val y)).set l (.val z))
theorem ds_par3 {i j l : Nat} {x y z : Str} {px py pz pt : Pos} {kt k2 pt2} (hc : X.calm = true) (hN : X.N.Nodup) (hi : X.N[i]? = some x) (hj : X.N[j]? = some y) (hl : X.N[l]? = some z) (hij : i ≠ j) (hil : i ≠ l) (hjl : j ≠ l)
    (hx : X.env.scope.names.lookup x = some .local) (hy : X.env.scope.names.lookup y = some .local) (hz : X.env.scope.names.lookup z = some .local) (ha : DE W X a wa) (hb : DE W X b wb) (hcc : DE W X c wc)
    (hw : swappedStores [.Tuple [.Name x px, .Name y py, .Name z pz] kt pt] (.Tuple [a, b, c] k2 pt2) X.env = pure (some [x, y, z]))
    (hs : swapsWithSole [.Tuple [.Name x px, .Name y py, .Name z pz] kt pt] (.Tuple [a, b, c] k2 pt2) pos.line X.env = pure false := by rfl)
    (hs1 : starEach [a, b, c] X.env = (false, eval a X.env) :: starEach [b, c] X.env := by rfl) (hs2 : starEach [b, c] X.env = (false, eval b X.env) :: starEach [c] X.env := by rfl) (hs3 : starEach [c] X.env = (false, eval c X.env) :: starEach [] X.env := by rfl) :
    DS W H0 X (.Assign [.Tuple [.Name x px, .Name y py, .Name z pz] kt pt] (.Tuple [a, b, c] k2 pt2) pos) (wPar3 i j l wa wb wc) :=
  ps_weak (ps_par3 hc hN hi hj hl hij hil hjl hx hy hz (pa_cons ha (pa_cons hb (pa_cons hcc pa_nil hs3) hs2) hs1) hw hs) fun D σ H h => by
    obtain ⟨F0, F, ρ, E, gd, r, ev, h, im⟩ := h
    refine ⟨F, ρ, H0, _, gd, ev, h, fun d q v F1 H1 g1 r1 rp => ?_⟩
    refine ⟨F1, ρ, H0, _, g1, ev.grow r1, q, fun d2 q2 v2 F2 H2 g2 r2 rp2 => ?_⟩
    refine ⟨F2, ρ, H0, _, g2, (ev.grow r1).grow r2, q2, fun d3 q3 v3 F3 H3 g3 r3 rp3 => ?_⟩
    refine ⟨v, v2, v3, rfl, im.nx _ q3 _ F3 H3 g3 (((r.trans r1).trans r2).trans r3) ?_⟩
    exact ((((((ev.grow r1).grow r2).grow r3).setV i (rp_mono (r2.trans r3).f _ _ rp)).setV j (rp_mono r3.f _ _ rp2)).setV l rp3)
/-! a, b = e, {} by way of the pair (b is a cell) -/
def wAsgD (i j : Nat) (we : WE) : WS := fun E ρ => we ρ fun d => E.nx ((ρ.set i (.val d)).set j (.dT []))
theorem ds_asgD {i j : Nat} {x y : Str} {p1 px py pt : Pos} {kt k2 pt2} (hc : X.calm = true) (hN : X.N.Nodup) (hi : X.N[i]? = some x) (hj : X.N[j]? = some y) (hx : Loc X.env.scope x) (hy : Loc X.env.scope y) (he : DE W X e we)
    (hs : swapsWithSole [.Tuple [.Name x px, .Name y py] kt pt] (.Tuple [e, .Dict [] [] p1] k2 pt2) pos.line X.env = pure false := by rfl) (hw : swappedStores [.Tuple [.Name x px, .Name y py] kt pt] (.Tuple [e, .Dict [] [] p1] k2 pt2) X.env = pure none := by rfl)
    (h1 : (assignEach [.Tuple [.Name x px, .Name y py] kt pt] X.env).map (·.2) = [assign (.Tuple [.Name x px, .Name y py] kt pt) X.env] := by rfl)
    (hn : (assignEach [.Name x px, .Name y py] X.env).length = 2 := by rfl) (hst : (assignEach [.Name x px, .Name y py] X.env).findIdx? (·.1) = none := by rfl)
    (ha1 : (assignEach [.Name x px, .Name y py] X.env).map (·.2) = assign (.Name x px) X.env :: (assignEach [.Name y py] X.env).map (·.2) := by rfl) (ha2 : (assignEach [.Name y py] X.env).map (·.2) = assign (.Name y py) X.env :: (assignEach [] X.env).map (·.2) := by rfl)
    (hs1 : starEach [e, .Dict [] [] p1] X.env = (false, eval e X.env) :: starEach [.Dict [] [] p1] X.env := by rfl) (hs2 : starEach [.Dict [] [] p1] X.env = (false, eval (.Dict [] [] p1) X.env) :: starEach [] X.env := by rfl)
    (hfx : X.fn x = true ∨ X.env.scope.names.lookup x = some .local := by first | exact .inl rfl | exact .inr rfl | assumption) (hfy : X.fn y = true ∨ X.env.scope.names.lookup y = some .local := by first | exact .inl rfl | exact .inr rfl | assumption) :
    DS W H0 X (.Assign [.Tuple [.Name x px, .Name y py] kt pt] (.Tuple [e, .Dict [] [] p1] k2 pt2) pos) (wAsgD i j we) :=
  ps_weak (ps_asg (pe_tup (pa_cons he (pa_cons pe_dnewT pa_nil hs2) hs1)) (pg_tup hc (pgs_cons (pg_name hN hi hx hfx) (pgs_cons (pg_name hN hj hy hfy) pgs_nil ha2) ha1) hn hst) hs hw h1) fun D σ H h => by
    obtain ⟨F0, F, ρ, E, gd, r, ev, h, im⟩ := h
    refine ⟨F, ρ, H0, _, gd, ev, h, fun d q v F1 H1 g1 r1 rp => fun t ht => ⟨by show 2 ≤ sizeLine; decide, fun u hu => ?_⟩⟩
    have g2 : Gd W F1 (upd H1 t (.dT [])) := g1.free (g1.fnone ht) (g1.notM ht)
    have r2 : Gr W F1 H1 F1 (upd H1 t (.dT [])) := Gr.new ht
    obtain ⟨g3, r3⟩ := g2.laid (o := .tup [v, .ref t]) hu
    have htu : upd H1 t (.dT []) t ≠ none := by rw [upd_same]; simp
    have ev3 := ((ev.grow r1).grow r2).grow r3
    refine ⟨u, _, rfl, SqT.of upd_same, rfl, _, _, rfl, _, _, rfl, rfl, im.nx _ q _ _ _ g3 (((r.trans r1).trans r2).trans r3) ?_⟩
    have ht0 : H0 t = none := r.none_of (r1.none_of ht)
    have et : upd (upd H1 t (.dT [])) u (.tup [v, .ref t]) t = some (.dT []) := by
      rw [upd_ne (fun z => htu (by have hu' := hu; rw [← z] at hu'; exact hu')), upd_same]
    refine (ev3.setV i (rp_mono r3.f _ _ rp)).set j (v := .ref t) (b := .dT []) ⟨t, [], rfl, et, .nil, (r3.n t htu).trans (g1.fnone ht), g1.notM ht, ht0⟩ fun _ c k hc ok ek => ?_
    cases hc
    rw [getD_set] at ok ek
    rw [ev.len] at ek
    by_cases z : i = k ∧ k < ρ.length
    · rw [if_pos z] at ok
      exact ok
    · rw [if_neg z] at ok ek
      exact ((ev.grow r1).owned ok ek).1 ht
/-! ### dict comprehensions -/
def wDcL (g : WG) (tt : WT) (tk te : WE) : List PyData → List (Key × PyData) → En → (List (Key × PyData) → Prop) → Prop
  | [], acc, _, Q => Q acc
  | d :: ds, acc, ρ, Q => g d ρ fun ρ' => tt ρ' fun b => if b = true then tk ρ' fun y => te ρ' fun z => match keyD y with
      | some k => acc.length < sizeLine ∧ wDcL g tt tk te ds (putD acc k z) ρ Q
      | none => False
    else wDcL g tt tk te ds acc ρ Q
def wSetDc (i : Nat) (wl : WP) (g : WG) (tt : WT) (tk te : WE) (vs : List Nat) : WS := fun E ρ => wl ρ fun ds => wDcL g tt tk te ds [] (wipeR ρ vs) fun kvs => E.nx (ρ.set i (.dK kvs))
theorem dc_run {K : PySem.W.Frag} {g : WG} {tt : WT} {tk te : WE} {vs : List Nat} {σ : L2.St} {F H : Hp} {ρ : En} {P : List (Key × PyData) → Prop} {Q : VK} {J : It} {ds : List PyData} {F1 H1 : Hp} {D : Addr}
    (gd : Gd W F H) (g1 : Gd W F1 H1) (r1 : Gr W F H F1 H1) (ev : EnvOk K W H0 F1 H1 σ ρ) (it : ItD K W F1 J ds) (hD : H1 D = none) (q : wDcL g tt tk te ds [] (wipeR ρ vs) P)
    (k : ∀ kvs, P kvs → ∀ a xs F' H', Gd W F' H' → Gr W F H F' H' → H a = none → H' a = some (.dK xs) → F' a = none → KvAll K F' xs kvs → Q (.ref a) H') :
    ∃ Wn : Nat → Nat → Hp → Prop, (∃ m, Wn 0 m (upd H1 D (.dK []))) ∧ ∀ i m H, Wn i m H →
      (J.stop i H ∧ Q (.ref D) H) ∨ (J.go i H ∧ ∃ Nx : Hp → Prop, (∀ H', Nx H' → ∃ m', m' < m ∧ Wn (i + 1) m' H') ∧ ∀ x H', J.yld i H x H' → lG K W (some vs) g x (wipe σ vs) H' fun σ2 H2 => wipe σ2 vs = wipe σ vs ∧ lT K W tt σ2 H2 fun b H3 =>
        if b = true then lE K W tk σ2 H3 fun y H4 => lE K W te σ2 H4 fun z H5 => ∃ kvs k, y = kV k ∧ H5 D = some (.dK kvs) ∧ kvs.length < sizeLine ∧ Nx (upd H5 D (.dK (putK kvs k z))) else Nx H3) := by
  have nm : ¬ W.M D := g1.notM hD
  have hDH : H D = none := r1.none_of hD
  refine ⟨fun i m H2 => i + m = ds.length ∧ ∃ F2 acc xs, Gd W F2 H2 ∧ Gr W F1 H1 F2 H2 ∧ F2 D = none ∧ H2 D = some (.dK xs) ∧ KvAll K F2 xs acc ∧ wDcL g tt tk te (ds.drop i) acc (wipeR ρ vs) P,
    ⟨ds.length, by omega, F1, [], [], g1.free (g1.fnone hD) nm, Gr.new hD, g1.fnone hD, upd_same, .nil, q⟩, ?_⟩
  rintro i m H2 ⟨hm, F2, acc, xs, g2, r2, fD, eD, ra, q2⟩
  by_cases hi : i < ds.length
  · have hd : ds.drop i = ds[i] :: ds.drop (i + 1) := List.drop_eq_getElem_cons hi
    rw [hd] at q2
    refine .inr ⟨it.go i F2 H2 g2 r2.f hi, fun H' => ∃ F' acc xs, Gd W F' H' ∧ Gr W F1 H1 F' H' ∧ F' D = none ∧ H' D = some (.dK xs) ∧ KvAll K F' xs acc ∧ wDcL g tt tk te (ds.drop (i + 1)) acc (wipeR ρ vs) P, fun H' z => ⟨m - 1, by omega, by omega, z⟩, fun x H3 y => ?_⟩
    obtain ⟨F3, g3, r3, rp⟩ := it.yld i ds[i] F2 H2 x H3 g2 r2.f (List.getElem?_eq_getElem hi) y
    have hD2 : H2 D ≠ none := by rw [eD]; simp
    have eD3 : H3 D = some (.dK xs) := r3.h D _ nm eD
    have fD3 : F3 D = none := (r3.n D hD2).trans fD
    have r13 := r2.trans r3
    have ev3 := (ev.grow r13).wipe vs
    refine ⟨F3, _, H0, ds[i], _, g3, ev3, rp, q2, fun ρ4 q4 σ4 ev4 s4 => ⟨(show wipe σ4 vs = wipe (wipe σ vs) vs from s4).trans (wipe_wipe σ vs), F3, ρ4, H0, _, g3, ev4, q4, fun b qb F5 H5 g5 r5 => ?_⟩⟩
    have hD3 : H3 D ≠ none := by rw [eD3]; simp
    have eD5 : H5 D = some (.dK xs) := r5.h D _ nm eD3
    have fD5 : F5 D = none := (r5.n D hD3).trans fD3
    have f25 : ∀ b o, F2 b = some o → F5 b = some o := (r3.trans r5).f
    cases b with
    | false => exact ⟨F5, acc, xs, g5, r13.trans r5, fD5, eD5, kvAll_mono f25 ra, qb⟩
    | true =>
      refine ⟨F5, ρ4, H0, _, g5, ev4.grow r5, qb, fun dk qd vk F6 H6 g6 r6 rk => ?_⟩
      have hD5 : H5 D ≠ none := by rw [eD5]; simp
      have eD6 : H6 D = some (.dK xs) := r6.h D _ nm eD5
      have fD6 : F6 D = none := (r6.n D hD5).trans fD5
      refine ⟨F6, ρ4, H0, _, g6, (ev4.grow r5).grow r6, qd, fun dv qv vv F7 H7 g7 r7 rv => ?_⟩
      have hD6 : H6 D ≠ none := by rw [eD6]; simp
      have eD7 : H7 D = some (.dK xs) := r7.h D _ nm eD6
      have fD7 : F7 D = none := (r7.n D hD6).trans fD6
      have f27 : ∀ b o, F2 b = some o → F7 b = some o := (((r3.trans r5).trans r6).trans r7).f
      cases ek : keyD dk with
      | none => rw [ek] at qv; exact qv.elim
      | some kk =>
        rw [ek] at qv
        obtain ⟨hz, qv⟩ := qv
        have ra7 := kvAll_mono f27 ra
        refine ⟨xs, kk, key_v rk ek, eD7, by rw [kv_len ra]; exact hz, F7, _, _, g7.free fD7 nm, ((((r13.trans r5).trans r6).trans r7)).chg hD, fD7, upd_same, kv_put kk rv ra7, qv⟩
  · have hl : i = ds.length := by omega
    subst hl
    rw [List.drop_length] at q2
    exact .inl ⟨it.stop F2 H2 g2 r2.f, k acc q2 D xs F2 H2 g2 (r1.trans r2) hDH eD fD ra⟩
theorem ds_setDc {i : Nat} {y : Str} {py : Pos} {kx vx tg iter : Expr} {ifs : List Expr} {scope : Scope} {own : List (Str × Nat)} {spos : Pos} {wl : WP} {g : WG} {tt : WT} {tk te : WE} (hN : X.N.Nodup) (hy : X.N[i]? = some y) (hx : Loc X.env.scope y) (hc : X.calm = true) (hi : DI W X tg iter wl) (ok : BlkOk X.N X.env.scope scope own)
    (hg : ∀ (s : Shared) (H : Hp) (C : Addr) (cl : List (Str × Addr)) (fp : List Addr), DG W (X.blk s H scope (compEnvC scope cl C X.env) fp) (some (own.map (·.2))) tg g) (ht : ∀ (s : Shared) (H : Hp) (C : Addr) (cl : List (Str × Addr)) (fp : List Addr), DTs W (X.blk s H scope (compEnvC scope cl C X.env) fp) ifs tt)
    (hk : ∀ (s : Shared) (H : Hp) (C : Addr) (cl : List (Str × Addr)) (fp : List Addr), DE W (X.blk s H scope (compEnvC scope cl C X.env) fp) kx tk)
    (he : ∀ (s : Shared) (H : Hp) (C : Addr) (cl : List (Str × Addr)) (fp : List Addr), DE W (X.blk s H scope (compEnvC scope cl C X.env) fp) vx te) (hs : ∀ x, foldedSetIterable iter X.env x = pure x := by intro _; rfl)
    (hsw : swapsWith (.DictComp kx vx [⟨tg, iter, ifs, 0⟩] scope pos) (some (.Name y py)) spos.line X.env = pure false := by rfl) (hf : X.fn y = true ∨ X.env.scope.names.lookup y = some .local := by first | exact .inl rfl | exact .inr rfl | assumption) :
    DS W H0 X (.Assign [.Name y py] (.DictComp kx vx [⟨tg, iter, ifs, 0⟩] scope pos) spos) (wSetDc i wl g tt tk te (own.map (·.2))) :=
  ps_weak (ps_set hN hy hx (pe_dc (g := lG X.K W (some (own.map (·.2))) g) (tt := lT X.K W tt) (tk := lE X.K W tk) (tv := lE X.K W te) hc hN hi ok hg ht hk he hs) hsw hf) fun Dn σ H h => by
    obtain ⟨F0, F, ρ, E, gd, r, ev, h, im⟩ := h
    refine ⟨F, ρ, H0, _, gd, ev, h, fun ds q J F1 H1 g1 r1 it D hD => dc_run (Q := fun x H1 => gName i x σ H1 Dn.nx) gd g1 r1 (ev.grow r1) it hD q fun kvs p a xs F' H' g' r' hn ha hf rk => ?_⟩
    refine im.nx _ p _ F' H' g' (r.trans r') ((ev.grow r').set i (b := .dK kvs) ⟨a, xs, rfl, ha, rk, hf, gd.notM hn, r.none_of hn⟩ fun _ c j hc oj ej => ?_)
    cases hc
    exact (ev.owned oj ej).1 hn
end
end Qd
set_option maxHeartbeats 2000000
namespace Qd
open PySem PySem.Spec PyProof.Rows L2
open AutoSeq1 (wpAny_loadPart')

/-! ### enumerate of a tuple -/
theorem enumT_new (t : Addr) (items : Array Value) (n : Nat) (dct : Option Addr) (sl : Array (Option Value)) :
    Meets (Builtin.«enumerate.__new__» ⟨[.type "enumerate", .ref t], []⟩) fun _ R s =>
      s.heap.get? t = some { cls := .type "tuple", dict := dct, data := .seq items n, slots := sl } ∧
      R (.ok (.ret (.ref (s.heap.push { cls := .type "tuple_iterator", data := .fields #[.ref t, .int 0 0] }).objs.size)))
        { s with heap := (s.heap.push { cls := .type "tuple_iterator", data := .fields #[.ref t, .int 0 0] }).push { cls := .type "enumerate", data := .fields #[.none, .bool false, .ref s.heap.objs.size, rawInt 0, .none, .none] } } :=
  .of_wp fun prog w A R s h => by
    obtain ⟨hp, g, d, tk, os⟩ := s
    obtain ⟨ht, h⟩ := h
    have hsub := sub_enumerate
    have hT : Heap.IsTuple (Shared.heap ⟨hp, g, d, tk, os⟩) t items := ⟨_, ht, rfl, n, rfl⟩
    wp_walk using wpAny_loadPart' ht
    refine wpAny_stack_any fun st => wpAny_pure ?_
    split
    · rename_i c _ _ _ _ _
      cases (c == Value.type "enumerate") <;> (wp_walk using wpAny_loadPart' ht, wpAny_pyIter_tuple hT; exact ⟨_, rfl, h⟩)
    · wp_walk using wpAny_loadPart' ht, wpAny_pyIter_tuple hT
      exact ⟨_, rfl, h⟩
theorem enumT_call {prog : Program} {w : World} {A : Around} {E : Value → Shared → Prop} {s : Shared} {t : Addr} {items : Array Value} {Q : Value → Shared → Prop} (hT : s.heap.IsTuple t items)
    (h : ∀ h', IsEnum h' (s.heap.objs.size + 1) s.heap.objs.size 0 .none → h'.IsTupleIter s.heap.objs.size t 0 → (∀ b o, s.heap.get? b = some o → h'.get? b = some o) → Q (.ref (s.heap.objs.size + 1)) { s with heap := h' }) :
    wpAny (model prog w) A (call (.type "enumerate") [.ref t]) Q E s := by
  obtain ⟨⟨c, dct, dt, sl⟩, hl, hc, n, hd⟩ := hT
  simp only at hc hd
  subst hc hd
  refine callType_new F.called_enumerate (by decide) (F.typeCall_enumerate_1 _) (F.newCall_enumerate_1 _) (fun obj => F.args_object_init_2 obj _) F.entry_enumerate_new (enumT_new t items n dct sl) ⟨hl, ?_⟩
  have hz : (s.heap.push { cls := .type "tuple_iterator", data := .fields #[.ref t, .int 0 0] }).objs.size = s.heap.objs.size + 1 := Heap.size_push ..
  show _ ∧ _
  rw [hz]
  have he : IsEnum ((s.heap.push { cls := .type "tuple_iterator", data := .fields #[.ref t, .int 0 0] }).push { cls := .type "enumerate", data := .fields #[.none, .bool false, .ref s.heap.objs.size, rawInt 0, .none, .none] }) (s.heap.objs.size + 1) s.heap.objs.size 0 .none := by
    have z := Heap.get?_push_size (s.heap.push { cls := .type "tuple_iterator", data := .fields #[.ref t, .int 0 0] }) (o := { cls := .type "enumerate", data := .fields #[.none, .bool false, .ref s.heap.objs.size, rawInt 0, .none, .none] }) rfl
    rw [hz] at z
    exact z
  exact ⟨⟨_, he, rfl⟩, h _ he ⟨_, Heap.get?_push_of_some _ (Heap.get?_push_size _ rfl), rfl, rfl⟩ fun b o x => Heap.get?_push_of_some _ (Heap.get?_push_of_some _ x)⟩
/-- the tuple at a, each item in a new pair -/
def IteT (K : PySem.W.Frag) (a : Addr) : It where
  go := fun i H => ∃ (xs : List V) (x : V), SqT K H a xs ∧ xs[i]? = some x
  yld := fun i H v H' => ∃ T x, v = .ref T ∧ H T = none ∧ H' = upd H T (.tup [.int (i : Nat), x]) ∧ ∀ xs, SqT K H a xs → xs[i]? = some x
  stop := fun i H => ∃ xs : List V, SqT K H a xs ∧ xs.length = i
theorem turn_enumT {P : Program} {w : World} {K : PySem.W.Frag} {elts : List Expr} {kk : Nat} {tpos : Pos} (a e it : Addr) (hae : a ≠ it) :
    Turn P w K (.Tuple elts kk tpos) (IteT K a) [e, it] e (fun i h => (∃ old, IsEnum h e it ((i : Nat) : Int) old) ∧ h.IsTupleIter it a i ∧ e ≠ it ∧ e ≠ a) where
  mem := List.mem_cons_self
  obj := fun i h st b hb => by
    obtain ⟨⟨old, he⟩, ⟨o, ho, hc, hd⟩, _⟩ := st
    have e' : b = e ∨ b = it := by simpa using hb
    rcases e' with z | z
    · rw [z]
      exact ⟨_, he, fun v q => nomatch q⟩
    · rw [z]
      exact ⟨o, ho, fun v q => by rw [hd] at q; cases q⟩
  keep := fun i h h' st k => let ⟨⟨old, he⟩, hi, hne⟩ := st; ⟨⟨old, k e (by simp) _ he⟩, hi.at fun o q => k it (by simp) o q, hne⟩
  item := by
    intro X hP hw hK hc i pins s σ H E I hf st hg
    subst hP hw hK
    obtain ⟨⟨old, he⟩, hit, hne, hea⟩ := st
    obtain ⟨xs, x, hq, hx⟩ := hg
    obtain ⟨its, rv, p, hz⟩ := I.tuple hq
    obtain ⟨u, hu, ru⟩ := rv.get hx
    have hel : e < s.heap.objs.size := Heap.lt_size he
    have hil : it < s.heap.objs.size := by obtain ⟨_, q, _⟩ := hit; exact Heap.lt_size q
    have pT : s.heap.IsTuple a its.toArray := p
    have hh : X.A.in1.handled = none := I.ok.hd hc
    have hlt : i < its.toArray.size := by
      rw [List.size_toArray]
      exact (List.getElem?_eq_some_iff.mp hu).1
    refine wpAny_pyNext_enum_itemD (Draws.tuple (prog := X.prog) (w := X.w) hh it a hae its.toArray) he ⟨hit, pT⟩ hlt hne (by simp [hne, hea]) fun y h' tk hy ho st' hT hsz hk => ?_
    have ey : y = u := by
      have hy : its.toArray[i]? = some y := hy
      rw [List.getElem?_toArray, hu] at hy
      exact (Option.some.inj hy).symm
    subst ey
    refine ⟨_, rfl, wpAny_letOwnedTupleGo_enum (s := { s with heap := h', toks := tk + 1 }) ho fun h'' he' sb => ?_⟩
    have hT2 : h''.get? s.heap.objs.size = some { cls := .type "tuple", data := .seq #[.int i tk, y] } := (sb.2 _ (Nat.ne_of_gt hel)).trans hT
    have new : ObjOk X.prog X.w (upd H s.heap.objs.size (.tup [.int (i : Nat), x])) h'' s.heap.objs.size (.tup [.int (i : Nat), x]) :=
      ⟨by show 2 ≤ sizeLine; decide, [.int i tk, y], .cons ⟨_, rfl⟩ (.cons ru .nil), ⟨_, hT2, rfl, _, rfl⟩⟩
    have I1 : Inv X pins σ (upd H s.heap.objs.size (.tup [.int (i : Nat), x])) { s with heap := h'', toks := tk + 1 } :=
      I.turnedNew (ch := [e, it]) (fun b ob hb q => (sb.2 b (fun z => hb (by simp [z]))).trans (hk b ob (fun z => hb (by simp [z])) (fun z => hb (by simp [z])) q)) hf (Nat.le_refl _) new
    refine ⟨.ref s.heap.objs.size, _, I1, rfl, ⟨_, x, rfl, I.hok.fresh (Nat.le_refl _), rfl, fun ys hy => by rw [I.tuple_inj hy hq]; exact hx⟩, ⟨⟨y, ?_⟩, st'.1.at fun o q => (sb.2 it (Ne.symm hne)).trans q, hne, hea⟩, fun b hb => ?_⟩
    · have e1 : ((i + 1 : Nat) : Int) = (i : Int) + 1 := by omega
      rw [e1]
      exact he'
    · have hb' : b < s.heap.objs.size := by
        have e' : b = e ∨ b = it := by simpa using hb
        rcases e' with z | z
        · rw [z]; exact hel
        · rw [z]; exact hil
      rw [upd_ne (Nat.ne_of_lt hb')]
      exact (hf b hb).1
  done := by
    intro X hP hw hK hc i pins s σ H E I hf st hg
    subst hP hw hK
    obtain ⟨⟨old, he⟩, hit, hne, hea⟩ := st
    obtain ⟨xs, hq, hx⟩ := hg
    obtain ⟨its, rv, p, hz⟩ := I.tuple hq
    obtain ⟨f0, f1, f2, f3, f4, f5⟩ := hf it (by simp)
    have pT : s.heap.IsTuple a its.toArray := p
    have hh : X.A.in1.handled = none := I.ok.hd hc
    have hn : its.toArray.size = i := by rw [List.size_toArray, ← rv.length, hx]
    exact wpAny_pyNext_enum_endD (Draws.tuple (prog := X.prog) (w := X.w) hh it a hae its.toArray) he (by rw [hn]; exact ⟨hit, pT⟩) fun h' eb => ⟨rfl, I.turned (t' := s.toks) (fun b o hb q => eb b o hb q) f0 f1 f3 f4 f5⟩
  self := fun A i s Q E st h => let ⟨⟨_, he⟩, _⟩ := st; wpAny_pyIter_enum he h
theorem walk_enumT {K : PySem.W.Frag} {a : Addr} {xs : List V} : Walk (IteT K a) xs.length (fun H => SqT K H a xs) (YPair (fun i => some (.int (i : Nat))) (fun i => xs[i]?)) := by
  refine ⟨fun i _ hi q => ⟨xs, xs[i], q, by simp [hi]⟩, fun _ q => ⟨xs, q, rfl⟩, fun i H v H' _ q y => ?_⟩
  obtain ⟨T, x, h1, h2, h3, h4⟩ := y
  exact ⟨T, .int (i : Nat), x, h1, h2, h3, rfl, h4 xs q⟩
section
variable {W : Wd} {H0 : Hp} {X : Cx} {a b c e : Expr} {es : List Expr} {we wa wb wc : WE} {wp : WP} {pos p : Pos} {x : Str} {id T : String}
theorem pi_enumS {elts : List Expr} {kk : Nat} {tpos : Pos} {tl : TE} (hl : PE X e tl) (hg : Gl X "enumerate") (hm : X.mg "enumerate" = none) (hs : starEach [e] X.env = (false, eval e X.env) :: starEach [] X.env := by rfl) (hs1 : starEach [e] X.env = [(false, eval e X.env)] := by rfl) :
    PI X (.Tuple elts kk tpos) (.Call (.Name "enumerate" p) [e] [] pos) (fun σ H R => tl σ H fun x H1 => ∃ a, x = .ref a ∧ ((∃ xs, SqL X.K H1 a xs) ∧ R (Ite X.K a) H1 ∨ (∃ xs, SqT X.K H1 a xs) ∧ R (IteT X.K a) H1)) := by
  refine ⟨fun pins s σ H R I h => ?_⟩
  have hA := (pa_cons hl pa_nil hs).run pos pins s σ H (fun vs H1 => match vs with
    | [x] => ∃ a, x = .ref a ∧ ((∃ xs, SqL X.K H1 a xs) ∧ R (Ite X.K a) H1 ∨ (∃ xs, SqT X.K H1 a xs) ∧ R (IteT X.K a) H1)
    | _ => False) I h
  refine Call_ (ld_blt I hg hm boot_enumerate (PyProof.Rows.callWith_type1 (thn hA fun us s1 ⟨vs, H1, I1, r1, q1⟩ => ?_) hs1 rfl))
  cases r1 with
  | nil => exact q1.elim
  | cons r rr =>
    cases rr with
    | cons _ _ => exact q1.elim
    | nil =>
      obtain ⟨a, rfl, q⟩ := q1
      cases r
      have fresh : ∀ b, b = s1.heap.objs.size + 1 ∨ b = s1.heap.objs.size → FpOk X pins H1 b := fun b e' => by
        have hle : s1.heap.objs.size ≤ b := by
          rcases e' with z | z
          · rw [z]; exact Nat.le_add_right _ _
          · rw [z]; exact Nat.le_refl _
        exact I1.fpOk hle (I1.hok.fresh hle)
      rcases q with ⟨⟨xs, hq⟩, q⟩ | ⟨⟨xs, hq⟩, q⟩
      · obtain ⟨its, rv, p', hz⟩ := I1.list hq
        refine call_enumerate_list p'.isList fun h' he hit hsz hk => wpAny_pyIter_enum he ?_
        exact ⟨s1.heap.objs.size + 1, [s1.heap.objs.size + 1, s1.heap.objs.size], _, _, H1, rfl, I1.kept (t' := s1.toks) hk, turn_enum a (s1.heap.objs.size + 1) s1.heap.objs.size, ⟨⟨.none, he⟩, hit, Nat.succ_ne_self _⟩, fun b hb => fresh b (by simpa using hb), q⟩
      · obtain ⟨its, rv, p', hz⟩ := I1.tuple hq
        have pT : s1.heap.IsTuple a its.toArray := p'
        have la : a < s1.heap.objs.size := by obtain ⟨o, ho, _⟩ := pT; exact Heap.lt_size ho
        refine enumT_call pT fun h' he hit hk => wpAny_pyIter_enum he ?_
        exact ⟨s1.heap.objs.size + 1, [s1.heap.objs.size + 1, s1.heap.objs.size], _, _, H1, rfl, I1.kept (t' := s1.toks) hk, turn_enumT a (s1.heap.objs.size + 1) s1.heap.objs.size (Nat.ne_of_lt la), ⟨⟨.none, he⟩, hit, Nat.succ_ne_self _, Nat.ne_of_gt (Nat.lt_succ_of_lt la)⟩, fun b hb => fresh b (by simpa using hb), q⟩
def enumD (ds : List PyData) : List PyData := ds.zipIdx.map fun p => .tuple [.int (p.2 : Int), p.1]
def wEnum (we : WE) : WP := fun ρ Q => we ρ fun d => match itemsD d with
  | some ds => Q (enumD ds)
  | none => False
theorem enum_items {K : PySem.W.Frag} {F1 : Hp} {xs : List V} {ds : List PyData} (rx : RpAll K F1 xs ds) (i : Nat) (d : PyData) (x y : V) (F : Hp) (f : ∀ b o, F1 b = some o → F b = some o) (hd : (enumD ds)[i]? = some d) (hx : some (V.int (i : Nat)) = some x) (hy : xs[i]? = some y) :
    ∃ ex ey, d = .tuple [ex, ey] ∧ Rp K F x ex ∧ Rp K F y ey := by
  unfold enumD at hd
  rw [List.getElem?_map, List.getElem?_zipIdx] at hd
  cases e : ds[i]? with
  | none => rw [e] at hd; cases hd
  | some ey =>
    rw [e] at hd
    simp at hd
    cases hx
    exact ⟨_, ey, hd.symm, .int _, rp_mono f _ _ (rpAll_get i rx hy e)⟩
theorem di_enum {elts : List Expr} {kk : Nat} {tpos : Pos} (he : DE W X e we) (hg : Gl X "enumerate") (hm : X.mg "enumerate" = none) (hs : starEach [e] X.env = (false, eval e X.env) :: starEach [] X.env := by rfl) (hs1 : starEach [e] X.env = [(false, eval e X.env)] := by rfl) :
    DI W X (.Tuple elts kk tpos) (.Call (.Name "enumerate" p) [e] [] pos) (wEnum we) := pi_weak (pi_enumS he hg hm hs hs1) fun σ H R h => by
  obtain ⟨F, ρ, H0, P, g, ev, h, k⟩ := h
  refine ⟨F, ρ, H0, _, g, ev, h, fun d q v F1 H1 g1 r1 rp => ?_⟩
  cases e : itemsD d with
  | none => rw [e] at q; exact q.elim
  | some ds =>
    rw [e] at q
    have hl : (enumD ds).length = ds.length := by unfold enumD; rw [List.length_map, List.length_zipIdx]
    obtain ⟨a, xs, rfl, rx, s⟩ := rp_items g1 rp e
    refine ⟨a, rfl, ?_⟩
    rcases s with s | s
    · exact .inl ⟨⟨xs, s F1 H1 g1 fun _ _ z => z⟩, k _ q _ F1 H1 g1 r1 (itd_pair walk_enum (by rw [hl, rpAll_len rx]) (fun F' H' g' f => s F' H' g' f) fun i d x y F f hd hx hy => enum_items rx i d x y F f hd hx hy)⟩
    · exact .inr ⟨⟨xs, s F1 H1 g1 fun _ _ z => z⟩, k _ q _ F1 H1 g1 r1 (itd_pair walk_enumT (by rw [hl, rpAll_len rx]) (fun F' H' g' f => s F' H' g' f) fun i d x y F f hd hx hy => enum_items rx i d x y F f hd hx hy)⟩
end
end Qd
set_option maxHeartbeats 2000000
namespace Qd
open PySem PySem.Spec PyProof.Rows L2 HT
/-! ### t[::-1] of a tuple -/
section
variable {prog : Program} {w : World} {A : Around} {E : Value → Shared → Prop} {s : Shared}
theorem adjust_back (n : Nat) : Builtin.Slice.sliceAdjust none none (-1) (n : Int) = ((n : Int) - 1, -1) := by
  unfold Builtin.Slice.sliceAdjust
  rfl
theorem places_back (n : Nat) : Builtin.Slice.slicePlaces ((n : Int) - 1) (-1) (-1) = n := by
  unfold Builtin.Slice.slicePlaces
  have h0 : ¬ ((-1 : Int) > 0) := by omega
  simp only [h0, if_false]
  rw [Int.neg_neg, Int.ediv_one]
  split <;> omega
theorem applied_back {sl : Addr} {vs : Value} {n : Nat} {Q : Int × Int × Nat → Shared → Prop} (hs : s.heap.IsSliceOf sl .none .none vs) (ps : IsPart vs (some (-1)))
    (h : Q ((n : Int) - 1, -1, n) s) : wpAny (model prog w) A (Builtin.Slice.sliceApplied (.ref sl) (pure (n : Int))) Q E s := by
  obtain ⟨os, hos, hcs, hds⟩ := id hs
  unfold Builtin.Slice.sliceApplied Builtin.Slice.sliceFields
  refine wpAny_bind (wpAny_bind (wpAny_field hos hds (x := .none) rfl (wpAny_bind (wpAny_field hos hds (x := .none) rfl (wpAny_bind (wpAny_field hos hds (x := vs) rfl (wpAny_pure ?_)))))))
  refine wpAny_bind (slicePart_ ps ?_)
  show wpAny _ _ (if ((-1 : Int) == 0) = true then _ else _) _ _ s
  rw [if_neg (by decide)]
  refine wpAny_bind (slicePart_ .none (wpAny_bind (slicePart_ .none (wpAny_bind (wpAny_pure ?_)))))
  show wpAny _ _ (match Builtin.Slice.sliceAdjust none none (-1) (n : Int) with | (lo, hi) => pure (lo, (-1 : Int), Builtin.Slice.slicePlaces lo hi (-1))) _ _ s
  rw [adjust_back n]
  show wpAny _ _ (pure ((n : Int) - 1, (-1 : Int), Builtin.Slice.slicePlaces ((n : Int) - 1) (-1) (-1))) _ _ s
  rw [places_back]
  exact wpAny_pure h
theorem pick_back (xs : Array Value) : ((List.range xs.size).filterMap fun (m : Nat) => xs[(((xs.size : Nat) : Int) - 1 + (m : Int) * (-1)).toNat]?).toArray = xs.toList.reverse.toArray := by
  have e : (List.range xs.size).filterMap (fun (m : Nat) => xs[(((xs.size : Nat) : Int) - 1 + (m : Int) * (-1)).toNat]?) = ((List.range xs.size).map fun k => xs.size - 1 - k).filterMap (xs[·]?) := by
    rw [List.filterMap_map]
    congr 1
    funext m
    have : (((xs.size : Nat) : Int) - 1 + (m : Int) * (-1)).toNat = xs.size - 1 - m := by omega
    rw [this]
    rfl
  rw [e, PySem.W.krv_range, List.filterMap_reverse, PySem.W.krv_all]
theorem getItem_back {t sl : Addr} {items : Array Value} {vs : Value} {Q : Value → Shared → Prop} (ht : IsTup s.heap t items) (hs : s.heap.IsSliceOf sl .none .none vs) (ps : IsPart vs (some (-1)))
    (h : Q (.ref s.heap.objs.size) { s with heap := s.heap.push { cls := .type "tuple", data := .seq items.toList.reverse.toArray } })
    (hsz : items.size ≤ sizeLine) : wpAny (model prog w) A (getItem (.ref t) (.ref sl)) Q E s := by
  have hb : sizeOk (.seq items.toList.reverse.toArray) := by
    show items.toList.reverse.toArray.size ≤ sizeLine
    rw [List.size_toArray, List.length_reverse, Array.length_toList]
    omega
  obtain ⟨os, hos, hcs, hds⟩ := id hs
  have hTs : s.TypeIs (.ref sl) "slice" := ⟨os, hos, hcs⟩
  unfold getItem
  try with_reducible refine wpAny_holding ?_
  first | refine wpAny_bind (wpAny_pure ?_) | skip
  refine wpAny_bind (wpAny_sequenceKey ht.typeIs (by decide) ?_)
  refine wpAny_bind (wpAny_callSpecial?_slot (name := Str.ofString "__getitem__") ht.typeIs PyProof.Rows.slot_tuple_getitem
    (wpAny_call_entry PyProof.Rows.slot_tuple_getitem ht.typeIs entry_tuple_getitem ?_ (args_tuple_getitem _ _)))
  show wpAny _ _ (Builtin.Tuple.tupleItemsOf (.ref t) >>= _) _ _ s
  refine wpAny_bind (tupleItemsOf_ ht ?_)
  refine wpAny_bind (wpAny_typeOf hTs ?_)
  rw [if_pos (by decide)]
  refine wpAny_bind (applied_back hs ps ?_)
  have hno : ¬ ((((items.size : Int) - 1 == 0) && ((-1 : Int) == 1) && (items.size == items.size)) = true) := by
    intro q
    rw [Bool.and_eq_true, Bool.and_eq_true] at q
    exact absurd q.1.2 (by decide)
  show wpAny _ _ (if (((items.size : Int) - 1 == 0) && ((-1 : Int) == 1) && (items.size == items.size)) = true then _ else _) _ _ s
  rw [if_neg hno, pick_back]
  first
    | exact wpAny_bind (m := Builtin.Tuple.tupleExact _) (wpAny_newObj_type (wpAny_pure ⟨_, rfl, wpAny_pure h⟩) hb)
    | exact wpAny_bind (m := Builtin.Tuple.tupleExact _) (wpAny_newObj_type (wpAny_bind (wpAny_pure (wpAny_pure ⟨_, rfl, wpAny_pure h⟩))) hb)
    | exact wpAny_bind (wpAny_bind (m := Builtin.Tuple.tupleExact _) (wpAny_newObj_type (wpAny_pure (wpAny_pure ⟨_, rfl, wpAny_pure h⟩)) hb))
    | exact wpAny_bind (wpAny_bind (m := Builtin.Tuple.tupleExact _) (wpAny_newObj_type (wpAny_pure ⟨_, rfl, wpAny_pure h⟩) hb))
end
section
variable {W : Wd} {H0 : Hp} {X : Cx} {a b c e : Expr} {es : List Expr} {we wa wb wc : WE} {wp : WP} {pos p : Pos} {x : Str}
def tBack (K : PySem.W.Frag) (te : TE) : TE := fun σ H Q => te σ H fun x H1 => ∃ a xs, x = .ref a ∧ SqT K H1 a xs ∧ ∀ p, H1 p = none → Q (.ref p) (upd H1 p (.tup xs.reverse))
theorem pe_back {te : TE} {k : Nat} {p1 p2 p3 pos : Pos} (he : PE X e te) : PE X (.Subscript e (.Slice none none (some (.UnaryOp .USub (.Constant (.int 1) k p1) p2)) p3) pos) (tBack X.K te) := by
  refine ⟨fun pins s σ H Q I h => Subscript_ (thn (he.run pins s σ H _ I h) ?_)⟩
  intro v s1 ⟨x, H1, I1, r1, a, xs, ex, hx, q⟩
  subst ex
  cases r1
  have hst : PO X (some (.UnaryOp .USub (.Constant (.int 1) k p1) p2)) (tPart (tUn (rU fun i => .int (-i)) (tC (.int 1)))) := po_some (pe_un un_neg pe_int)
  refine wpAny_Slice (thn (po_none.run pins s1 σ H1 (fun o H2 => o = none ∧ H2 = H1) I1 ⟨rfl, rfl⟩) ?_)
  intro vl s2 ⟨o2, H2, I2, pl, el, e2⟩
  subst el
  cases pl
  cases e2
  refine thn (po_none.run pins s2 σ _ (fun o H3 => o = none ∧ H3 = H1) I2 ⟨rfl, rfl⟩) ?_
  intro vu s3 ⟨o3, H3, I3, pu, eu, e3⟩
  subst eu
  cases pu
  cases e3
  refine thn (hst.run pins s3 σ _ (fun o H4 => o = some (-1) ∧ H4 = H1) I3 ⟨1, rfl, -1, rfl, rfl, rfl⟩) ?_
  intro vs s4 ⟨o4, H4, I4, ps, eo, e4⟩
  subst eo
  cases e4
  have I5 : Inv X pins σ H1 { s4 with heap := s4.heap.push { cls := .type "slice", data := .fields #[.none, .none, vs] } } := I4.kept (t' := s4.toks) fun b ob q => Heap.get?_push_of_some _ q
  obtain ⟨its, r, ht, hz⟩ := I5.tuple hx
  have hlen := r.length
  show wpAny (model X.prog X.w) X.A (subscriptTail e (.Slice none none (some (.UnaryOp .USub (.Constant (.int 1) k p1) p2)) p3) (.ref a) (.ref s4.heap.objs.size)) (EP X pins σ Q) X.xe { s4 with heap := s4.heap.push { cls := .type "slice", data := .fields #[.none, .none, vs] } }
  refine tail_any (ops := [.ref a, .ref s4.heap.objs.size]) ht.typeIs PyProof.Rows.slot_tuple_getitem.lookup ?_ (by with_unfolding_all rfl)
  refine getItem_back ht (Heap.IsSliceOf.new _ .none .none vs) ps ?_ (by rw [List.size_toArray]; omega)
  refine ⟨.ref _, _, I5.laid (t' := s4.toks) (o := .tup xs.reverse) (fun b ob q => Heap.get?_push_of_some _ q) (Nat.le_refl _) ?_, rfl, q _ (I5.hok.fresh (Nat.le_refl _))⟩
  exact ⟨by rw [List.length_reverse]; exact hz, _, r.reverse, ⟨_, Heap.get?_push_size _ rfl, rfl, _, rfl⟩⟩
def rRevD : PyData → (PyData → Prop) → Prop := fun d Q => match d with
  | .tuple ds => Q (.tuple ds.reverse)
  | _ => False
theorem de_rev {k : Nat} {p1 p2 p3 pos : Pos} (he : DE W X e we) : DE W X (.Subscript e (.Slice none none (some (.UnaryOp .USub (.Constant (.int 1) k p1) p2)) p3) pos) (wUn rRevD we) := pe_weak (pe_back he) fun σ H Q h => by
  obtain ⟨F, ρ, H0, P, g, ev, h, k⟩ := h
  refine ⟨F, ρ, H0, _, g, ev, h, fun d q v F1 H1 g1 r1 rp => ?_⟩
  cases d with
  | tuple ds =>
    obtain ⟨a, xs, rfl, hs, ra⟩ := sqT_of g1 rp
    exact ⟨a, xs, rfl, hs, fun l hl => (k.then r1).laid g1 hl q (rp_tupN g1 hl (rpAll_rev ra))⟩
  | _ => exact q.elim
end
end Qd
set_option maxHeartbeats 2000000
namespace Qd
open PySem PySem.Spec PyProof.Rows L2
/-! ### max of one tuple of two ints -/
section
variable {prog : Program} {w : World} {A : Around} {E : Value → Shared → Prop} {s : Shared}
theorem maxT_two {l : Addr} {a b : Int} {t u : Tok} {Q : Value → Shared → Prop} (hh : A.handled = none) (hl : s.heap.IsTuple l (intItems #[(a, t), (b, u)]))
    (h : ∀ h' tk, (∀ c o, s.heap.get? c = some o → h'.get? c = some o) → Q (if b > a then .int b u else .int a t) { s with heap := h', toks := tk }) : wpAny (model prog w) A (call (.builtin "max") [.ref l]) Q E s := by
  have hlt : l < s.heap.objs.size := by obtain ⟨_, e, _⟩ := hl; exact Heap.lt_size e
  refine call_max_walk (wpAny_pyIter_tuple hl ?_)
  refine ⟨_, _, _, _, _, _, _, rfl, Walks.tuple (A := A.in1) hh _ l (Nat.ne_of_lt hlt) (intItems #[(a, t), (b, u)]), ⟨⟨_, Heap.get?_push_size _ rfl, rfl, rfl⟩, hl.push _⟩, fun c hc => ?_, by simp [intItems],
    CmpOf.ints_gt (numAt #[(a, t), (b, u)]) (fun _ _ => intItems_at), fun v h' tk hP hk => ?_⟩
  · show c < (s.heap.push _).objs.size
    rw [Heap.size_push]
    have hc' : c = s.heap.objs.size ∨ c = l := by simpa using hc
    rcases hc' with z | z
    · rw [z]; exact Nat.lt_succ_self _
    · rw [z]; exact Nat.lt_succ_of_lt hlt
  · have hold : ∀ c o, s.heap.get? c = some o → h'.get? c = some o := fun c o e => hk c o (fun hm => by
      have z : c = s.heap.objs.size := by simpa using hm
      exact absurd (Heap.lt_size e) (by rw [z]; exact Nat.lt_irrefl _)) (Heap.get?_push_of_some _ e)
    have q := h h' tk hold
    have sz : (intItems #[(a, t), (b, u)]).size - 1 = 1 := by simp [intItems]
    rw [sz] at hP
    have hv : v = if b > a then Value.int b u else Value.int a t := by
      by_cases hba : b > a
      · have d : decide (numAt #[(a, t), (b, u)] 1 > numAt #[(a, t), (b, u)] 0) = true := by simp [numAt, hba]
        have g : argBest (fun i j => decide (numAt #[(a, t), (b, u)] i > numAt #[(a, t), (b, u)] j)) 1 = 1 := by
          show (if decide (numAt #[(a, t), (b, u)] 1 > numAt #[(a, t), (b, u)] 0) = true then 1 else 0) = 1
          rw [if_pos d]
        rw [g] at hP
        rw [if_pos hba]
        simp [intItems] at hP
        exact hP.symm
      · have d : ¬ decide (numAt #[(a, t), (b, u)] 1 > numAt #[(a, t), (b, u)] 0) = true := by simp [numAt]; omega
        have g : argBest (fun i j => decide (numAt #[(a, t), (b, u)] i > numAt #[(a, t), (b, u)] j)) 1 = 0 := by
          show (if decide (numAt #[(a, t), (b, u)] 1 > numAt #[(a, t), (b, u)] 0) = true then 1 else 0) = 0
          rw [if_neg d]
        rw [g] at hP
        rw [if_neg hba]
        simp [intItems] at hP
        exact hP.symm
    rw [hv]
    exact q
end
section
variable {W : Wd} {H0 : Hp} {X : Cx} {a b c e : Expr} {es : List Expr} {we wa wb wc : WE} {wp : WP} {pos p : Pos} {x : Str}
def rMaxT : RB := fun ds Q => match ds with
  | [.tuple [.int i, .int j]] => Q (.int (if j > i then j else i))
  | _ => False
theorem cp_maxt (hc : X.calm = true) : CallP W X (.builtin "max") rMaxT := by
  intro pins s σ H xs us Q I rv h
  obtain ⟨F, ds, P, g, ps, h, k⟩ := h
  unfold rMaxT at h
  split at h
  · rename_i i j
    obtain ⟨v, rfl, sh⟩ := paired1 ps
    obtain ⟨l, vs, rfl, hs, rx⟩ := sqT_of g (shl_rp sh (fun _ z => by cases z))
    cases rx with
    | cons r1 rx =>
      cases rx with
      | cons r2 rx =>
        cases rx
        cases r1
        cases r2
        rw [Vals.ref1 rv]
        obtain ⟨its, r, ht, hz⟩ := I.tuple hs
        cases r with
        | cons s1 r =>
          cases r with
          | cons s2 r =>
            cases r
            obtain ⟨t1, rfl⟩ := s1
            obtain ⟨t2, rfl⟩ := s2
            refine maxT_two (I.ok.hd hc) (a := i) (t := t1) (b := j) (u := t2) ?_ fun h' tk hk => ?_
            · have p : s.heap.IsTuple l [Value.int i t1, Value.int j t2].toArray := ht
              simpa [intItems] using p
            · refine ⟨.int (if j > i then j else i), H, I.kept hk, ?_, k.val g h (.int _)⟩
              by_cases z : j > i
              · rw [if_pos z, if_pos z]; exact ⟨_, rfl⟩
              · rw [if_neg z, if_neg z]; exact ⟨_, rfl⟩
  · exact h.elim
end
end Qd
set_option maxHeartbeats 2000000
namespace Qd
open PySem PySem.Spec PyProof.Rows L2
/-! ### LENGTHS.get(word) -/
def lensD (z : Str) : Option Int :=
  if z = "thing" then some 3 else if z = "none" then some 1 else if z = "beside" then some 3 else if z = "below" then some 3 else if z = "row" then some 3 else if z = "turned" then some 2 else if z = "moved" then some 3 else if z = "times" then some 3 else if z = "tied" then some 4 else if z = "only" then some 3 else none
def LensOk (K : PySem.W.Frag) (w : World) (mg : Str → Option Value) : Prop := ∃ f es n, mg "LENGTHS" = some (.ref f) ∧ KDict K w f es n ∧ ∀ z i, lensD z = some i → ∃ u, PySem.W.nsIn K f z = some (some u) ∧ RelV (.int i) u
def rLens : PyData → (PyData → Prop) → Prop := fun d Q => match d with
  | .str z => (match lensD z with
    | some i => Q (.int i)
    | none => False)
  | _ => False
section
variable {W : Wd} {H0 : Hp} {X : Cx} {a b c e : Expr} {es : List Expr} {we wa wb wc : WE} {wp : WP} {pos p : Pos} {x : Str}
theorem de_lget {apos cpos : Pos} (hu : X.A.units + 1 < cLine) (L : LensOk X.K X.w X.mg) (he : DE W X e we) (hg : Gl X "LENGTHS" := by rfl)
    (hbase : attributeBase (.Name "LENGTHS" p) "get" X.env (eval (.Name "LENGTHS" p) X.env) = eval (.Name "LENGTHS" p) X.env := by rfl)
    (hfew : ((backTo cpos (starEach [e] X.env)).all (fun x => !x.1) && (backToKw cpos (keywordEach [] X.env)).all (fun x => x.1.isSome) && decide ([e].length + ([] : List Keyword).length + (if ([] : List Keyword).isEmpty then 0 else 1) < 30)) = true := by rfl)
    (hline : (apos.endLine == cpos.line) = true := by rfl) (htr : backTo cpos (starEach [e] X.env) = [(false, eval e X.env)] := by rfl) :
    DE W X (.Call (.Attribute (.Name "LENGTHS" p) "get" apos) [e] [] cpos) (wUn rLens we) := by
  obtain ⟨f, ds, n, hm, D, hv⟩ := L
  have ho : PE X (.Name "LENGTHS" p) (tC (.ref f)) := pe_glob (v := .ref f) hg hm rfl (by decide)
  refine ⟨fun pins s σ H Q I h => ?_⟩
  refine wpAny_Call_method hbase hfew hline PySem.F.plainAttrs_dict PySem.F.slot_dict_get PySem.F.type_dict_get (thn (ho.run pins s σ H (fun x H' => x = .ref f ∧ lE X.K W (wUn rLens we) σ H' Q) I ⟨rfl, h⟩) fun u s1 ⟨x, H1, I1, rx, ex, q1⟩ => ?_)
  subst ex
  obtain rfl : u = Value.ref f := rx
  have hM := PySem.W.mapOf_K (prog := X.prog) (w := X.w) I1.kIn D.at_ D.lit
  refine ⟨hM.typeIs, fun b z => ?_, ?_⟩
  · cases z
    exact ⟨_, I1.kIn f _ D.at_, rfl⟩
  rw [htr]
  obtain ⟨F, ρ, H0, P, g, ev, q1, k⟩ := q1
  refine Calls.callWith_builtin rfl (Calls.evalArgs_plain (Calls.spliced_cons (thn (he.run pins s1 σ H1 (fun y H2 => ∃ z i, y = .str z ∧ lensD z = some i ∧ Q (.int i) H2) I1 ⟨F, ρ, H0, _, g, ev, q1, fun d q v F1 H1 g1 r1 rp => ?_⟩) fun iv s2 ⟨y, H2, I2, ry, z, i, ey, el, q2⟩ => Calls.spliced_nil ?_)))
  · unfold rLens at q
    cases d with
    | str z =>
      cases rp
      dsimp only at q
      cases el : lensD z with
      | none => rw [el] at q; exact q.elim
      | some i =>
        rw [el] at q
        exact ⟨z, i, rfl, el, (k.then r1).val g1 q (.int i)⟩
    | _ => exact q.elim
  · subst ey
    obtain ⟨t, rfl⟩ := ry
    obtain ⟨u, hu1, hu2⟩ := hv z i el
    have hM2 := PySem.W.mapOf_K (prog := X.prog) (w := X.w) I2.kIn D.at_ D.lit
    refine call_meetsIn PySem.F.slot_dict_get hM2.typeIs PySem.F.entry_dict_get (PySem.F.args_dict_get_2 _ _) (meets_dict_get (strKind X.prog X.w) f (PySem.strKind_is X.prog X.w z t) D.low) ⟨_, hM2, ?_⟩
    rw [PySem.W.find_K D.at_ hu1]
    exact ⟨_, H2, I2.tok _, hu2, q2⟩
end
end Qd
set_option maxHeartbeats 2000000
namespace Qd
open PySem PySem.Spec PyProof.Rows L2
/-! ### dict([(tuple, value), ..]) -/
def mergeT (kvs : List (List Key × V)) (more : List (List Key × Addr × V)) : List (List Key × V) := more.foldl (fun acc kv => putK acc kv.1 kv.2.2) kvs
theorem length_mergeT : ∀ (more : List (List Key × Addr × V)) (kvs : List (List Key × V)), (mergeT kvs more).length ≤ kvs.length + more.length
  | [], kvs => Nat.le_refl _
  | p :: r, kvs => by
    have h1 := length_mergeT r (putK kvs p.1 p.2.2)
    have h2 := length_putK kvs p.1 p.2.2
    show (mergeT (putK kvs p.1 p.2.2) r).length ≤ _
    rw [List.length_cons]
    omega
def KT3 (H : Hp) : List (List Key × Addr × V) → List (List Key × Addr × Value) → Prop := Paired fun p q => p.1 = q.1 ∧ p.2.1 = q.2.1 ∧ H q.2.1 = some (.tup (q.1.map kV)) ∧ RelV p.2.2 q.2.2
theorem KT3.merge {H : Hp} {more : List (List Key × Addr × V)} {rs : List (List Key × Addr × Value)} (r : KT3 H more rs) : ∀ {kvs : List (List Key × V)} {xs : List (List Key × Addr × Value)}, KT H kvs xs → KT H (mergeT kvs more) (storedAllH xs rs) := by
  induction r with
  | nil => intro kvs xs q; exact q
  | @cons p q ps qs h t ih =>
    intro kvs xs k
    obtain ⟨e1, e2, hb, rv⟩ := h
    show KT H (mergeT (putK kvs p.1 p.2.2) ps) (storedAllH (storedH xs q.1 q.2.1 q.2.2) qs)
    rw [e1]
    exact ih (k.put q.1 hb rv)
section
variable {X : Cx}
theorem pairsT_of {pins : List (Addr × Obj)} {σ : L2.St} {H : Hp} {s : Shared} (I : Inv X pins σ H s) {ps : List Addr} {kvs : List (List Key × Addr × V)} (h : Paired (fun p kv => SqT X.K H p [V.ref kv.2.1, kv.2.2] ∧ H kv.2.1 = some (.tup (kv.1.map kV))) ps kvs) :
    ∃ prs : List (List Key × Addr × Value), KT3 H kvs prs ∧ prs.length = ps.length ∧ ∀ (j : Nat) (q : List Key × Addr × Value), prs[j]? = some q → ∃ b, ps[j]? = some b ∧ IsTup s.heap b #[.ref q.2.1, q.2.2] ∧ H q.2.1 = some (.tup (q.1.map kV)) := by
  induction h with
  | nil => exact ⟨[], .nil, rfl, fun j q e => by simp at e⟩
  | @cons p kv ps kvs h t ih =>
    obtain ⟨prs, r, hl, hp⟩ := ih
    obtain ⟨hs, hk⟩ := h
    obtain ⟨its, rv, ht, _⟩ := I.tuple hs
    obtain ⟨u, y, ei, ru, ry⟩ := vals2 rv
    subst ei
    cases (show u = Value.ref kv.2.1 from ru)
    refine ⟨(kv.1, kv.2.1, y) :: prs, .cons ⟨rfl, rfl, hk, ry⟩ r, by rw [List.length_cons, List.length_cons, hl], fun j q e => ?_⟩
    cases j with
    | zero =>
      have e' : (kv.1, kv.2.1, y) = q := Option.some.inj e
      subst e'
      exact ⟨p, rfl, ht, hk⟩
    | succ j =>
      obtain ⟨b, e1, e2⟩ := hp j q (by simpa using e)
      exact ⟨b, by simpa using e1, e2⟩
theorem call_dictT (hcalm : X.calm = true) (hu : X.A.units + 64 < cLine) : CallR X (.type "dict") (fun xs H Q => ∃ (a : Addr) (ps : List Addr) (kvs : List (List Key × Addr × V)), xs = [.ref a] ∧ SqL X.K H a (ps.map V.ref) ∧
    Paired (fun p kv => SqT X.K H p [V.ref kv.2.1, kv.2.2] ∧ H kv.2.1 = some (.tup (kv.1.map kV))) ps kvs ∧ ∀ p, H p = none → Q (.ref p) (upd H p (.dT (mergeT [] kvs)))) := by
  intro pins s σ H xs us Q I r q
  obtain ⟨a, ps, kvs, ex, hq, hp, q⟩ := q
  subst ex
  obtain ⟨u, eu, rx⟩ := vals1 r
  subst eu
  cases rx
  obtain ⟨its, rv, pl, hz⟩ := I.list hq
  have ei := refs_at rv
  subst ei
  rw [List.length_map] at hz
  obtain ⟨prs, rel, hl, hpr⟩ := pairsT_of I hp
  obtain ⟨o, n, ho, hc, hd, hdat⟩ := pl
  have hkey : ∀ x ∈ prs, H x.2.1 = some (.tup (x.1.map kV)) := fun x hx => by
    obtain ⟨j, hj⟩ := List.getElem?_of_mem hx
    obtain ⟨b, _, _, e3⟩ := hpr j x hj
    exact e3
  have hlp : (prs.map fun q => ((Value.ref q.2.1, q.2.2) : Value × Value)).length = ps.length := by rw [List.length_map, hl]
  have P := PairArg.list (prog := X.prog) (w := X.w) a (ps.map Value.ref).toArray (fun j => ps.getD j 0) (prs.map fun q => (Value.ref q.2.1, q.2.2))
  refine call_dict_pairsH (knd := tupleKind (mixKind X.prog X.w)) (ps := prs) P (I.ok.hd hcalm) (by show X.A.in1.units + 1 < cLine; show X.A.units + 1 + 1 < cLine; omega) ⟨⟨o, n, ho, hc, hd, hdat⟩, by rw [List.size_toArray, List.length_map, hlp], fun j k v e => ?_⟩ ?_ ?_ (by rw [hlp]; exact hz) fun h' tk hd' hk => ?_
  · rw [List.getElem?_map] at e
    cases ej : prs[j]? with
    | none => rw [ej] at e; cases e
    | some q =>
      rw [ej] at e
      cases e
      obtain ⟨b, e1, e2, _⟩ := hpr j q ej
      have eg : ps.getD j 0 = b := by rw [List.getD_eq_getElem?_getD, e1]; rfl
      show (List.map Value.ref ps).toArray[j]? = some (Value.ref (ps.getD j 0)) ∧ PairAt s.heap (ps.getD j 0) (Value.ref q.2.1) q.2.2
      rw [eg]
      refine ⟨by simp [e1], .inl ?_⟩
      exact e2
  · refine ⟨by rw [List.length_map], fun i key v e => ?_⟩
    have e' : (prs.map fun q => ((Value.ref q.2.1, q.2.2) : Value × Value))[i]? = some (key, v) := e
    rw [List.getElem?_map] at e'
    cases ej : prs[i]? with
    | none => rw [ej] at e'; cases e'
    | some q =>
      rw [ej] at e'
      cases e'
      exact ⟨q.1, q.2.1, rfl, rfl⟩
  · intro h' hk x hx
    have z : (tupleKind (mixKind X.prog X.w)).is s.heap x.1 x.2.1 := key_of I.hok (hkey x hx)
    obtain ⟨o2, its2, n2, f1, f2, f3, f4⟩ := z
    exact ⟨o2, its2, n2, hk _ _ (Nat.ne_of_lt (Heap.lt_size f1)) (fun h => nomatch h) f1, f2, f3, f4⟩
  · have hm : (s.heap.objs.size == sysModules) = false := beq_eq_false_iff_ne.mpr (Nat.ne_of_gt I.big)
    have hlen : (mergeT [] kvs).length ≤ sizeLine := by
      refine Nat.le_trans (length_mergeT kvs []) ?_
      rw [List.length_nil, Nat.zero_add, Paired.length rel, hl]
      exact hz
    obtain ⟨o3, es, ep, h1, h2, h3, h4, _, h5⟩ := hd'
    have hn : H s.heap.objs.size = none := I.hok.fresh (Nat.le_refl _)
    refine ⟨.ref s.heap.objs.size, upd H s.heap.objs.size (.dT (mergeT [] kvs)), I.laid (t' := tk) (fun b o e => hk b o (fun h => nomatch h) e) (Nat.le_refl _) ⟨hlen, hm, storedAllH [] prs, ?_, o3, es, ep, h1, h2, h3, h4, h5⟩, rfl, q _ hn⟩
    exact (KT3.merge rel (.nil : KT H [] [])).keeps fun c ys ec => by
      rw [upd_ne (fun z => by rw [z, hn] at ec; cases ec)]
      exact ec
end
/-- the pairs of a list -/
def pairsK : List PyData → Option (List (Key × PyData))
  | [] => some []
  | .tuple [k, v] :: r => match keyD k, pairsK r with
    | some k, some l => some ((k, v) :: l)
    | _, _ => none
  | _ => none
def pairsT : List PyData → Option (List (List Key × PyData))
  | [] => some []
  | .tuple [k, v] :: r => match tkeyD k, pairsT r with
    | some k, some l => some ((k, v) :: l)
    | _, _ => none
  | _ => none
def mergeD {κ : Type} [DecidableEq κ] (kvs more : List (κ × PyData)) : List (κ × PyData) := more.foldl (fun acc kv => putD acc kv.1 kv.2) kvs
theorem kv_merge {K : PySem.W.Frag} {F : Hp} {more : List (Key × V)} {ds : List (Key × PyData)} (r : KvAll K F more ds) : ∀ {xs : List (Key × V)} {ys : List (Key × PyData)}, KvAll K F xs ys → KvAll K F (mergeK xs more) (mergeD ys ds) := by
  induction r with
  | nil => intro xs ys q; exact q
  | @cons p q ps qs h t ih =>
    intro xs ys k
    show KvAll K F (mergeK (putK xs p.1 p.2) ps) (mergeD (putD ys q.1 q.2) qs)
    rw [h.1]
    exact ih (kv_put q.1 h.2 k)
theorem kt_merge {K : PySem.W.Frag} {F : Hp} {more : List (List Key × Addr × V)} {ds : List (List Key × PyData)} (r : Paired (fun (p : List Key × Addr × V) (q : List Key × PyData) => p.1 = q.1 ∧ Rp K F p.2.2 q.2) more ds) : ∀ {xs : List (List Key × V)} {ys : List (List Key × PyData)}, KvAll K F xs ys → KvAll K F (mergeT xs more) (mergeD ys ds) := by
  induction r with
  | nil => intro xs ys q; exact q
  | @cons p q ps qs h t ih =>
    intro xs ys k
    show KvAll K F (mergeT (putK xs p.1 p.2.2) ps) (mergeD (putD ys q.1 q.2) qs)
    rw [h.1]
    exact ih (kv_put q.1 h.2 k)
theorem pairsK_v {K : PySem.W.Frag} {F : Hp} : ∀ {ds : List PyData} {vs : List V} {kvs : List (Key × PyData)}, RpAll K F vs ds → pairsK ds = some kvs →
    ∃ (ps : List Addr) (l : List (Key × V)), vs = ps.map V.ref ∧ Paired (fun p kv => F p = some (.tup [kV kv.1, kv.2])) ps l ∧ KvAll K F l kvs
  | [], _, kvs, h, e => by
    cases h
    cases e
    exact ⟨[], [], rfl, .nil, .nil⟩
  | d :: ds, _, kvs, h, e => by
    cases h with
    | cons h1 h2 =>
      unfold pairsK at e
      split at e
      · rename_i heq
        cases heq
      · rename_i k v r heq
        cases heq
        cases ek : keyD k with
        | none => rw [ek] at e; cases e
        | some kk =>
          cases er : pairsK ds with
          | none => rw [ek, er] at e; cases e
          | some l =>
            rw [ek, er] at e
            cases e
            obtain ⟨ps, m, e1, e2, e3⟩ := pairsK_v h2 er
            cases h1 with
            | tup hs ha =>
              cases ha with
              | cons a1 a2 =>
                cases a2 with
                | cons a2 a3 =>
                  cases a3
                  cases key_v a1 ek
                  subst e1
                  exact ⟨_ :: ps, (kk, _) :: m, rfl, .cons hs e2, .cons ⟨rfl, a2⟩ e3⟩
      · cases e
theorem pairsT_v {K : PySem.W.Frag} {F : Hp} : ∀ {ds : List PyData} {vs : List V} {kvs : List (List Key × PyData)}, RpAll K F vs ds → pairsT ds = some kvs →
    ∃ (ps : List Addr) (l : List (List Key × Addr × V)), vs = ps.map V.ref ∧ Paired (fun p kv => F p = some (.tup [V.ref kv.2.1, kv.2.2]) ∧ F kv.2.1 = some (.tup (kv.1.map kV))) ps l ∧ Paired (fun (p : List Key × Addr × V) (q : List Key × PyData) => p.1 = q.1 ∧ Rp K F p.2.2 q.2) l kvs
  | [], _, kvs, h, e => by
    cases h
    cases e
    exact ⟨[], [], rfl, .nil, .nil⟩
  | d :: ds, _, kvs, h, e => by
    cases h with
    | cons h1 h2 =>
      unfold pairsT at e
      split at e
      · rename_i heq
        cases heq
      · rename_i k v r heq
        cases heq
        cases ek : tkeyD k with
        | none => rw [ek] at e; cases e
        | some kk =>
          cases er : pairsT ds with
          | none => rw [ek, er] at e; cases e
          | some l =>
            rw [ek, er] at e
            cases e
            obtain ⟨ps, m, e1, e2, e3⟩ := pairsT_v h2 er
            cases h1 with
            | tup hs ha =>
              cases ha with
              | cons a1 a2 =>
                cases a2 with
                | cons a2 a3 =>
                  cases a3
                  obtain ⟨b, rfl, hb⟩ := tkey_v a1 ek
                  subst e1
                  exact ⟨_ :: ps, (kk, b, _) :: m, rfl, .cons ⟨hs, hb⟩ e2, .cons ⟨rfl, a2⟩ e3⟩
      · cases e
section
variable {W : Wd} {H0 : Hp} {X : Cx} {a b c e : Expr} {es : List Expr} {we wa wb wc : WE} {wl : WP} {pos p : Pos} {x : Str}
def wSetDict (i : Nat) (wl : WP) : WS := fun E ρ => wl ρ fun ds => match pairsK ds with
  | some kvs => E.nx (ρ.set i (.dK (mergeD [] kvs)))
  | none => False
def wSetDictT (i : Nat) (wl : WP) : WS := fun E ρ => wl ρ fun ds => match pairsT ds with
  | some kvs => E.nx (ρ.set i (.dT (mergeD [] kvs)))
  | none => False
theorem ds_setDict {i : Nat} {y : Str} {py spos : Pos} (hN : X.N.Nodup) (hy : X.N[i]? = some y) (hx : Loc X.env.scope y) (hc : X.calm = true) (hg : Gl X "dict") (hm : X.mg "dict" = none) (hl : DF W X e wl)
    (hst : starEach [e] X.env = (false, eval e X.env) :: starEach [] X.env := by rfl) (hpl : (backTo pos (starEach [] X.env)).any (·.1) = false := by rfl)
    (hsw : swapsWith (.Call (.Name "dict" p) [e] [] pos) (some (.Name y py)) spos.line X.env = pure false := by rfl) (hf : X.fn y = true ∨ X.env.scope.names.lookup y = some .local := by first | exact .inl rfl | exact .inr rfl | assumption) :
    DS W H0 X (.Assign [.Name y py] (.Call (.Name "dict" p) [e] [] pos) spos) (wSetDict i wl) :=
  ps_weak (ps_set hN hy hx (pe_callTy (call_dictP hc) hg hm PyProof.Rows.boot_dict (pa_cons hl pa_nil hst) (by decide) (by decide) hst hpl) hsw hf) fun Dn σ H h => by
    obtain ⟨F0, F, ρ, E, gd, r, ev, h, im⟩ := h
    refine ⟨F, ρ, H0, _, gd, ev, h, fun ds q l xs F1 H1 g1 r1 hn ha hf rp => ?_⟩
    cases ek : pairsK ds with
    | none => rw [ek] at q; exact q.elim
    | some kvs =>
      rw [ek] at q
      obtain ⟨ps, m, rfl, e2, e3⟩ := pairsK_v rp ek
      refine ⟨l, ps, m, rfl, .inl (.inl ha), Paired.mapP e2 fun _ _ z => SqT.of (g1.sub _ _ z), fun d hd => ?_⟩
      refine im.nx _ q _ F1 _ (g1.free (g1.fnone hd) (g1.notM hd)) ((r.trans r1).chg (r.none_of (r1.none_of hd))) ?_
      refine ((ev.grow r1).grow (Gr.new hd)).set i (b := .dK (mergeD [] kvs)) ⟨d, mergeK [] m, rfl, upd_same, kv_merge e3 .nil, g1.fnone hd, g1.notM hd, r.none_of (r1.none_of hd)⟩ fun _ c j hc oj ej => ?_
      cases hc
      exact ((ev.grow r1).owned oj ej).1 hd
theorem ds_setDictT {i : Nat} {y : Str} {py spos : Pos} (hN : X.N.Nodup) (hy : X.N[i]? = some y) (hx : Loc X.env.scope y) (hc : X.calm = true) (hu : X.A.units + 64 < cLine) (hg : Gl X "dict") (hm : X.mg "dict" = none) (hl : DF W X e wl)
    (hst : starEach [e] X.env = (false, eval e X.env) :: starEach [] X.env := by rfl) (hpl : (backTo pos (starEach [] X.env)).any (·.1) = false := by rfl)
    (hsw : swapsWith (.Call (.Name "dict" p) [e] [] pos) (some (.Name y py)) spos.line X.env = pure false := by rfl) (hf : X.fn y = true ∨ X.env.scope.names.lookup y = some .local := by first | exact .inl rfl | exact .inr rfl | assumption) :
    DS W H0 X (.Assign [.Name y py] (.Call (.Name "dict" p) [e] [] pos) spos) (wSetDictT i wl) :=
  ps_weak (ps_set hN hy hx (pe_callTy (call_dictT hc hu) hg hm PyProof.Rows.boot_dict (pa_cons hl pa_nil hst) (by decide) (by decide) hst hpl) hsw hf) fun Dn σ H h => by
    obtain ⟨F0, F, ρ, E, gd, r, ev, h, im⟩ := h
    refine ⟨F, ρ, H0, _, gd, ev, h, fun ds q l xs F1 H1 g1 r1 hn ha hf rp => ?_⟩
    cases ek : pairsT ds with
    | none => rw [ek] at q; exact q.elim
    | some kvs =>
      rw [ek] at q
      obtain ⟨ps, m, rfl, e2, e3⟩ := pairsT_v rp ek
      refine ⟨l, ps, m, rfl, .inl (.inl ha), Paired.mapP e2 fun _ _ z => ⟨SqT.of (g1.sub _ _ z.1), g1.sub _ _ z.2⟩, fun d hd => ?_⟩
      refine im.nx _ q _ F1 _ (g1.free (g1.fnone hd) (g1.notM hd)) ((r.trans r1).chg (r.none_of (r1.none_of hd))) ?_
      refine ((ev.grow r1).grow (Gr.new hd)).set i (b := .dT (mergeD [] kvs)) ⟨d, mergeT [] m, rfl, upd_same, kt_merge e3 .nil, g1.fnone hd, g1.notM hd, r.none_of (r1.none_of hd)⟩ fun _ c j hc oj ej => ?_
      cases hc
      exact ((ev.grow r1).owned oj ej).1 hd
end
end Qd
set_option maxHeartbeats 4000000
namespace Qd
open PySem PySem.Spec PyProof.Rows L2
/-! ### {k: v for t0 in i0 for t1 in i1} -/
abbrev dc2 (kx vx t0 i0 t1 i1 : Expr) (scope : Scope) (pos : Pos) : Expr := .DictComp kx vx [⟨t0, i0, [], 0⟩, ⟨t1, i1, [], 0⟩] scope pos
theorem dc2_out (kx vx t0 i0 t1 i1 : Expr) (scope : Scope) (pos : Pos) (it acc : Value) (env : Env) :
    compTurn (dc2 kx vx t0 i0 t1 i1 scope pos) 0 it acc env = (standAt i0.pos >>= fun _ => pyNext it >>= fun r => match r with
      | none => pure (.done .next)
      | some v => letOwnedTupleGo t0 it v >>= fun _ => assign t0 env v >>= fun _ => eval i1 env >>= fun x => standAt i1.pos >>= fun _ => foldedSetIterable i1 env x >>= fun x =>
          holding [x] (pyIter x) >>= fun y => runOwn (.compStart (dc2 kx vx t0 i0 t1 i1 scope pos) 1 y acc env) env >>= fun _ => again (.compLoop (dc2 kx vx t0 i0 t1 i1 scope pos) 0 it acc env)) := by rfl
theorem dc2_in (kx vx t0 i0 t1 i1 : Expr) (scope : Scope) (pos : Pos) (it : Value) (D : Addr) (env : Env) :
    compTurn (dc2 kx vx t0 i0 t1 i1 scope pos) 1 it (.ref D) env = (standAt i1.pos >>= fun _ => pyNext it >>= fun r => match r with
      | none => pure (.done .next)
      | some v => letOwnedTupleGo t1 it v >>= fun _ => assign t1 env v >>= fun _ =>
          (eval kx env >>= fun kv => holding [kv] (eval vx env) >>= fun vv => standAt { kx.pos with endLine := vx.pos.endLine, endCol := vx.pos.endCol } >>= fun _ => holding [kv, vv] (dictSet D kv vv)) >>= fun _ =>
          again (.compLoop (dc2 kx vx t0 i0 t1 i1 scope pos) 1 it (.ref D) env)) := by rfl

section
variable {prog : Program} {w : World} {A : Around} {R : Result → Shared → Prop} {s : Shared} {kx vx t0 i0 t1 i1 : Expr} {scope : Scope} {pos : Pos} {it acc : Value} {D : Addr} {env : Env}
abbrev NB (prog : Program) (w : World) (A : Around) (env : Env) (R : Result → Shared → Prop) : Value → Shared → Prop := notedBy (model prog w) A env fun e s' => R (.error e) s'
theorem dc2_loop0 (hs : ∀ x, foldedSetIterable i1 env x = pure x) (I : Nat → Shared → Prop)
    (turn : ∀ n s, I n s → wpAny (model prog w) A (pyNext it) (fun r s1 => match r with
      | none => R (.ok .next) s1
      | some v => wpAny (model prog w) A (letOwnedTupleGo t0 it v) (fun _ s2 => wpAny (model prog w) A (assign t0 env v) (fun _ s3 => wpAny (model prog w) A (eval i1 env) (fun x s4 => wpAny (model prog w) A (pyIter x) (fun y s5 =>
          codeAny (model prog w) A (.compStart (dc2 kx vx t0 i0 t1 i1 scope pos) 1 y acc env) (fun r s' => match r with
            | .ok _ => ∃ m, m < n ∧ I m s'
            | .error _ => False) s5) (NB prog w A env R) s4) (NB prog w A env R) s3) (NB prog w A env R) s2) (NB prog w A env R) s1) (NB prog w A env R) s)
    (n : Nat) (h : I n s) : codeAny (model prog w) A (.compLoop (dc2 kx vx t0 i0 t1 i1 scope pos) 0 it acc env) R s := by
  refine codeAny_loop rfl I (fun n s hI => ?_) n h
  show wpAny _ A ((compTurn (dc2 kx vx t0 i0 t1 i1 scope pos) 0 it acc env).onRaise (fun x => do noteFrame x env; theTreesLotGoes x)) _ _ s
  refine wpAny_noted ?_
  rw [dc2_out]
  refine wpAny_bind (wpAny_standAt (wpAny_bind (wpAny_mono (turn n s hI) (fun r s1 q1 => ?_) fun _ _ z => z)))
  cases r with
  | none => exact wpAny_pure q1
  | some v =>
    refine wpAny_bind (wpAny_mono q1 (fun _ s2 q2 => wpAny_bind (wpAny_mono q2 (fun _ s3 q3 => wpAny_bind (wpAny_mono q3 (fun x s4 q4 => ?_) fun _ _ z => z)) fun _ _ z => z)) fun _ _ z => z)
    refine wpAny_bind (wpAny_standAt (wpAny_bind (wpAny_of_eq (hs x) (wpAny_bind (wpAny_holding (wpAny_mono q4 (fun y s5 q5 => wpAny_bind (wpAny_runOwn ?_)) fun _ _ z => z))))))
    rw [Around.mark_none]
    refine codeAny_mono q5 fun r s' hr => ?_
    cases r with
    | ok f => first | exact wpAny_pure ⟨rfl, hr⟩ | exact wpAny_bind (wpAny_pure (wpAny_pure ⟨rfl, hr⟩))
    | error e => exact hr.elim
theorem dc2_loop1 (I : Nat → Shared → Prop)
    (turn : ∀ n s, I n s → wpAny (model prog w) A (pyNext it) (fun r s1 => match r with
      | none => R (.ok .next) s1
      | some v => wpAny (model prog w) A (letOwnedTupleGo t1 it v) (fun _ s2 => wpAny (model prog w) A (assign t1 env v) (fun _ s3 => wpAny (model prog w) A (eval kx env) (fun k s4 => wpAny (model prog w) A (eval vx env) (fun z s5 =>
          wpAny (model prog w) A (dictSet D k z) (fun _ s6 => ∃ m, m < n ∧ I m s6) (NB prog w A env R) s5) (NB prog w A env R) s4) (NB prog w A env R) s3) (NB prog w A env R) s2) (NB prog w A env R) s1) (NB prog w A env R) s)
    (n : Nat) (h : I n s) : codeAny (model prog w) A (.compLoop (dc2 kx vx t0 i0 t1 i1 scope pos) 1 it (.ref D) env) R s := by
  refine codeAny_loop rfl I (fun n s hI => ?_) n h
  show wpAny _ A ((compTurn (dc2 kx vx t0 i0 t1 i1 scope pos) 1 it (.ref D) env).onRaise (fun x => do noteFrame x env; theTreesLotGoes x)) _ _ s
  refine wpAny_noted ?_
  rw [dc2_in]
  refine wpAny_bind (wpAny_standAt (wpAny_bind (wpAny_mono (turn n s hI) (fun r s1 q1 => ?_) fun _ _ z => z)))
  cases r with
  | none => exact wpAny_pure q1
  | some v =>
    refine wpAny_bind (wpAny_mono q1 (fun _ s2 q2 => wpAny_bind (wpAny_mono q2 (fun _ s3 q3 => wpAny_bind (wpAny_bind (wpAny_mono q3 (fun k s4 q4 => ?_) fun _ _ z => z))) fun _ _ z => z)) fun _ _ z => z)
    refine wpAny_bind (wpAny_holding (wpAny_mono q4 (fun z s5 q5 => wpAny_bind (wpAny_standAt (wpAny_holding (wpAny_mono q5 (fun _ s6 q6 => wpAny_pure ⟨rfl, q6⟩) fun _ _ z => z)))) fun _ _ z => z))
theorem dc2_begin1 (h0 : codeAny (model prog w) A (.compLoop (dc2 kx vx t0 i0 t1 i1 scope pos) 1 it acc env) R s)
    (h : wpAny (model prog w) A (pyIter it) (fun y s' => codeAny (model prog w) A (.compLoop (dc2 kx vx t0 i0 t1 i1 scope pos) 1 y acc env) R s') (NB prog w A env R) s) :
    codeAny (model prog w) A (.compStart (dc2 kx vx t0 i0 t1 i1 scope pos) 1 it acc env) R s := by
  refine codeAny_of_tree ?_
  show wpAny _ _ ((compStart (dc2 kx vx t0 i0 t1 i1 scope pos) 1 it acc env).onRaise (fun x => do noteFrame x env; standAt theWindowsPlace)) _ _ s
  refine wpAny_notedAt ?_
  unfold compStart
  show wpAny _ _ (ask >>= _) _ _ s
  refine wpAny_bind (wpAny_askSetting (wpAny_ite ?_))
  split
  · first | exact wpAny_bind (wpAny_pure (wpAny_pure (And.intro rfl h0))) | exact wpAny_pure (And.intro rfl h0)
  · first
      | exact wpAny_bind (wpAny_rule (wpAny_bind (wpAny_standAt (wpAny_bind (wpAny_mono h (fun y s' q => wpAny_pure (And.intro rfl q)) fun _ _ z => z)))))
      | (refine wpAny_bind (wpAny_rule ?_); show wpAny _ _ (standAt i1.pos >>= _) _ _ s; exact wpAny_bind (wpAny_standAt (wpAny_bind (wpAny_mono h (fun y s' q => wpAny_pure (And.intro rfl q)) fun _ _ z => z))))
end
section
variable {X : Cx}
def tDc2 (wi : TI) (g : TG) (wi1 : TI) (g1 : TG) (tk tv : TE) (vs vs1 : List Nat) : TE := fun σ H Q => wi σ H fun J H1 => ∀ D, H1 D = none → ∃ U : Nat → Nat → Hp → Prop, (∃ m, U 0 m (upd H1 D (.dK []))) ∧ ∀ i m H, U i m H →
  (J.stop i H ∧ Q (.ref D) H) ∨ (J.go i H ∧ ∃ Nx : Hp → Prop, (∀ H', Nx H' → ∃ m', m' < m ∧ U (i + 1) m' H') ∧ ∀ x H', J.yld i H x H' → g x (wipe σ vs) H' fun σ2 H2 => wipe σ2 vs = wipe σ vs ∧
    wi1 σ2 H2 fun J1 H4 => ∃ U1 : Nat → Nat → Hp → Prop, (∃ m, U1 0 m H4) ∧ ∀ j k H, U1 j k H →
      (J1.stop j H ∧ Nx H) ∨ (J1.go j H ∧ ∃ Nx1 : Hp → Prop, (∀ H', Nx1 H' → ∃ k', k' < k ∧ U1 (j + 1) k' H') ∧ ∀ x H', J1.yld j H x H' → g1 x (wipe σ2 vs1) H' fun σ3 H5 => wipe σ3 vs1 = wipe σ2 vs1 ∧
        tk σ3 H5 fun y H6 => tv σ3 H6 fun z H7 => ∃ kvs k, y = kV k ∧ H7 D = some (.dK kvs) ∧ kvs.length < sizeLine ∧ Nx1 (upd H7 D (.dK (putK kvs k z)))))
theorem pe_dc2 {kx vx tg iter tg1 iter1 : Expr} {scope : Scope} {own : List (Str × Nat)} {vs1 : List Nat} {pos : Pos} {wi wi1 : TI} {g g1 : TG} {tk tv : TE} (hc : X.calm = true) (hN : X.N.Nodup) (hi : PI X tg iter wi) (ok : BlkOk X.N X.env.scope scope own) (hv : ∀ i ∈ vs1, i ∈ own.map (·.2))
    (hg : ∀ (s : Shared) (H : Hp) (C : Addr) (cl : List (Str × Addr)) (fp : List Addr), PG (X.blk s H scope (compEnvC scope cl C X.env) fp) tg g)
    (hi1 : ∀ (s : Shared) (H : Hp) (C : Addr) (cl : List (Str × Addr)) (fp : List Addr), PI (X.blk s H scope (compEnvC scope cl C X.env) fp) tg1 iter1 wi1)
    (hg1 : ∀ (s : Shared) (H : Hp) (C : Addr) (cl : List (Str × Addr)) (fp : List Addr), PG (X.blk s H scope (compEnvC scope cl C X.env) fp) tg1 g1)
    (hk : ∀ (s : Shared) (H : Hp) (C : Addr) (cl : List (Str × Addr)) (fp : List Addr), PE (X.blk s H scope (compEnvC scope cl C X.env) fp) kx tk)
    (he : ∀ (s : Shared) (H : Hp) (C : Addr) (cl : List (Str × Addr)) (fp : List Addr), PE (X.blk s H scope (compEnvC scope cl C X.env) fp) vx tv)
    (hs : ∀ x, foldedSetIterable iter X.env x = pure x := by intro _; rfl) (hs1 : ∀ env x, foldedSetIterable iter1 env x = pure x := by intro _ _; rfl) :
    PE X (dc2 kx vx tg iter tg1 iter1 scope pos) (tDc2 wi g wi1 g1 tk tv (own.map (·.2)) vs1) := by
  refine ⟨fun pins s σ H Q I h => ?_⟩
  rw [arm_eval_DictComp]
  have hfree : ∀ y ∈ scope.names, y.2 = .free → ∃ c, X.env.cells.lookup y.1 = some c := fun y hy e => by
    rcases ok.free y hy e with k | k
    · exact I.ok.has _ (.inl k)
    · exact I.ok.has _ (.inr k)
  refine wpAny_comprehension_free (use := none) rfl hs (closure_ok hfree) ok.kind (fun y hy e => by rw [ok.uniq y hy, e]) (thn (hi.run pins s σ H _ I h) fun xv s1 hx => thn hx fun itv s2 h2 => ?_)
  obtain ⟨it, fp, tn, J, H2, e, I2, T, st2, f2, q⟩ := h2
  subst e
  refine wpAny_newObj_type (newEnv_comp ?_)
  generalize hD : s2.heap.objs.size = D
  obtain ⟨U, ⟨m0, u0⟩, turn⟩ := q D (I2.hok.fresh (Nat.le_of_eq hD))
  generalize hs3 : ({ s2 with heap := s2.heap.push { cls := .type "dict", data := .dict #[] } } : Shared) = s3
  have h3 : s3.heap = s2.heap.push { cls := .type "dict", data := .dict #[] } := by rw [← hs3]
  have I3 : Inv X pins σ (upd H2 D (.dK [])) s3 := by
    rw [← hs3]
    refine I2.laid (t' := s2.toks) (fun b o e => Heap.get?_push_of_some _ e) (Nat.le_of_eq hD) ?_
    rw [← hD]
    exact dk_empty s2.heap I2.big
  have f3 : ∀ b ∈ fp, FpOk X pins (upd H2 D (.dK [])) b ∧ b < s3.heap.objs.size := fun b hb => by
    have hlt : b < s2.heap.objs.size := by
      obtain ⟨o, e, _⟩ := T.obj _ _ st2 b hb
      exact Heap.lt_size e
    refine ⟨⟨?_, (f2 b hb).2⟩, by rw [h3, Heap.size_push]; exact Nat.lt_succ_of_lt hlt⟩
    rw [upd_ne (by rw [← hD]; exact Nat.ne_of_lt hlt)]
    exact (f2 b hb).1
  have I4 := block_start I3 ok hN f3
  generalize hcl : cellsFrom (s3.heap.objs.size + 1) scope.names (cloFrom X.env.cells scope.names []) = cl at I4 ⊢
  have pg := hg s3 (upd H2 D (.dK [])) s3.heap.objs.size cl fp
  have pi1 := hi1 s3 (upd H2 D (.dK [])) s3.heap.objs.size cl fp
  have pg1 := hg1 s3 (upd H2 D (.dK [])) s3.heap.objs.size cl fp
  have pk := hk s3 (upd H2 D (.dK [])) s3.heap.objs.size cl fp
  have pe := he s3 (upd H2 D (.dK [])) s3.heap.objs.size cl fp
  show codeAny _ _ (.compStart (dc2 kx vx tg iter tg1 iter1 scope pos) 0 (.ref it) (.ref D) (compEnvC scope cl s3.heap.objs.size X.env)) (compPost (model X.prog X.w) X.A X.xe none (EP X pins σ Q) (.ref D) s3.heap.objs.size) { s3 with heap := pushCells (s3.heap.push { cls := .type "dict", data := .dict #[] }) scope.names }
  have nfp : ∀ b ∈ fp, (upd H2 D (.dK [])) b = none := fun b hb => (f3 b hb).1.1
  generalize hce : compEnvC scope cl s3.heap.objs.size X.env = ce at I4 pg pk pe pi1 pg1 ⊢
  have cL : ce.locals = s3.heap.objs.size := by subst hce; rfl
  generalize hH3 : upd H2 D (.dK []) = H3 at I3 I4 pg pk pe pi1 pg1 u0 nfp f3
  generalize hs4 : ({ s3 with heap := pushCells (s3.heap.push { cls := .type "dict", data := .dict #[] }) scope.names } : Shared) = s4 at I4 ⊢
  have st4 : tn 0 s4.heap := T.keep _ _ _ st2 fun b _ o e => by
    rw [← hs4]
    refine pushCells_keeps _ _ _ _ (Heap.get?_push_of_some _ ?_)
    rw [h3]
    exact Heap.get?_push_of_some _ e
  have own1 : ∀ {σ' : L2.St} {H' : Hp} {s' : Shared}, Inv (X.blk s3 H3 scope ce fp) [] σ' H' s' → (∀ b ∈ fp, H' b = none) → ∀ b ∈ fp, FpOk (X.blk s3 H3 scope ce fp) [] H' b := fun {σ' H' s'} I' hn b hb =>
    ⟨hn b hb, (I'.ok.exf b hb).1, I'.ok.exfs b hb, .inl hb, fun x c e => (I'.ok.exf b hb).2 x c e, fun p hp => absurd (show p ∈ ([] : List (Addr × Obj)) ++ [] from hp) (by simp)⟩
  have loop : codeAny (model X.prog X.w) X.A (.compLoop (dc2 kx vx tg iter tg1 iter1 scope pos) 0 (.ref it) (.ref D) ce) (compPost (model X.prog X.w) X.A X.xe none (EP X pins σ Q) (.ref D) s3.heap.objs.size) s4 := by
    refine dc2_loop0 (hs1 ce) (fun n s' => ∃ i H', Inv (X.blk s3 H3 scope ce fp) [] (wipe σ (own.map (·.2))) H' s' ∧ tn i s'.heap ∧ (∀ b ∈ fp, H' b = none) ∧ U i n H') ?_ m0 ⟨0, H3, I4, st4, nfp, u0⟩
    rintro n s5 ⟨i, H5, I5, st5, n5, u5⟩
    rcases turn i n H5 u5 with ⟨stop, qq⟩ | ⟨go, Nx, hNx, step⟩
    · refine thnF (T.done (X.blk s3 H3 scope ce fp) rfl rfl rfl hc i [] s5 _ H5 (fun _ _ => False) I5 (own1 I5 n5) st5 stop) fun r s6 ⟨hr, I6⟩ => ?_
      subst hr
      have I7 : Inv X pins σ H5 s6 := I3.call' (ch := fp) I6.os I6.base I6.hok I6.bare fun b hb => ⟨(f3 b hb).1.2.2.2.1, (f3 b hb).1.2.1, (f3 b hb).1.2.2.2.2.1, (f3 b hb).1.2.2.2.2.2⟩
      have nC : H5 s3.heap.objs.size = none := by
        have z : H5 ce.locals = none := I6.free
        rw [cL] at z
        exact z
      obtain ⟨m, hn, _⟩ := I6.loc
      have hn : s6.heap.Ns ce.locals m := hn
      rw [cL] at hn
      obtain ⟨y0, y1, y2, y3, y4, y5⟩ := I3.fpOk (Nat.le_refl _) nC
      exact ⟨m, hn, fun h'' sb => ⟨.ref D, H5, I7.turned (t' := s6.toks) (fun b o hb e => (sb.2 b hb).trans e) y0 y1 y3 y4 y5, rfl, qq⟩⟩
    · refine thnF (T.item (X.blk s3 H3 scope ce fp) rfl rfl rfl hc i [] s5 _ H5 (fun _ _ => False) I5 (own1 I5 n5) st5 go) fun r s6 ⟨u, hr, h6⟩ => ?_
      subst hr
      refine thnF h6 fun _ s7 ⟨x, H7, I7, r7, y7, st7, n7⟩ => ?_
      have I7' := I7.pinned (own1 I7 n7) (T.obj _ _ st7)
      refine thnF (pg.run _ s7 _ H7 x u _ I7' r7 (step x H7 y7)) fun _ s8 ⟨σ8, H8, I8, hw8, q8⟩ => ?_
      have fin : ∀ {σ9 : L2.St} {s' : Shared} {H' : Hp}, Inv (X.blk s3 H3 scope ce fp) ([] ++ pinsAt fp s7.heap) σ9 H' s' → (wipe σ (own.map (·.2))).length = σ9.length → (∀ (j : Nat) v, (wipe σ (own.map (·.2)))[j]? = some (some v) → σ9[j]? = some (some v)) → Nx H' →
          ∃ m, m < n ∧ ∃ i H', Inv (X.blk s3 H3 scope ce fp) [] (wipe σ (own.map (·.2))) H' s' ∧ tn i s'.heap ∧ (∀ b ∈ fp, H' b = none) ∧ U i m H' := fun {σ9 s' H'} I' hl hk nx => by
        obtain ⟨m', hm, w'⟩ := hNx H' nx
        have pin' : ∀ b ∈ fp, ∀ o, s7.heap.get? b = some o → s'.heap.get? b = some o ∧ H' b = none := fun b hb o e =>
          let z := I'.pin (b, o) (List.mem_append_right _ (List.mem_append_right _ (mem_pinsAt hb e)))
          ⟨z.1, z.2.1⟩
        refine ⟨m', hm, i + 1, H', (I'.unpinned (pins := [])).weak hl hk, T.keep _ _ _ st7 fun b hb o e => (pin' b hb o e).1, fun b hb => ?_, w'⟩
        obtain ⟨o, e, _⟩ := T.obj _ _ st7 b hb
        exact (pin' b hb o e).2
      have hl8 : (wipe σ (own.map (·.2))).length = σ8.length := by rw [← hw8, wipe_length]
      have hk9 : ∀ (j : Nat) v, (wipe σ (own.map (·.2)))[j]? = some (some v) → (wipe σ8 vs1)[j]? = some (some v) := fun j v e => by
        rw [← hw8] at e
        obtain ⟨e1, e2⟩ := wipe_some e
        rw [wipe_out fun z => e2 (hv j z)]
        exact e1
      refine thnF (pi1.run _ s8 σ8 H8 _ I8 q8) fun xv s10 hx => thnF hx fun itv s11 h11 => ?_
      obtain ⟨it1, fp1, tn1, J1, H11, e1, I11, T1, st11, f11, U1, ⟨m1, w1⟩, turn1⟩ := h11
      subst e1
      have own2 : ∀ {H' : Hp}, (∀ b ∈ fp1, H' b = none) → ∀ b ∈ fp1, FpOk (X.blk s3 H3 scope ce fp) ([] ++ pinsAt fp s7.heap) H' b := fun hn b hb => ⟨hn b hb, (f11 b hb).2⟩
      have loop1 : codeAny (model X.prog X.w) X.A (.compLoop (dc2 kx vx tg iter tg1 iter1 scope pos) 1 (.ref it1) (.ref D) ce) (fun r s' => match r with
          | .ok _ => ∃ m, m < n ∧ ∃ i H', Inv (X.blk s3 H3 scope ce fp) [] (wipe σ (own.map (·.2))) H' s' ∧ tn i s'.heap ∧ (∀ b ∈ fp, H' b = none) ∧ U i m H'
          | .error _ => False) s11 := by
        refine dc2_loop1 (fun k s' => ∃ j H', Inv (X.blk s3 H3 scope ce fp) ([] ++ pinsAt fp s7.heap) (wipe σ8 vs1) H' s' ∧ tn1 j s'.heap ∧ (∀ b ∈ fp1, H' b = none) ∧ U1 j k H') ?_ m1 ⟨0, H11, I11.weak (wipe_length _ _) (fun j v e => (wipe_some e).1), st11, fun b hb => (f11 b hb).1, w1⟩
        rintro k s12 ⟨j, H12, I12, st12, n12, w12⟩
        rcases turn1 j k H12 w12 with ⟨stop1, nx1⟩ | ⟨go1, Nx1, hNx1, step1⟩
        · refine thnF (T1.done (X.blk s3 H3 scope ce fp) rfl rfl rfl hc j _ s12 (wipe σ8 vs1) H12 (fun _ _ => False) I12 (own2 n12) st12 stop1) fun r s13 ⟨hr, I13⟩ => ?_
          subst hr
          exact fin I13 (hl8.trans (wipe_length σ8 vs1).symm) hk9 nx1
        · refine thnF (T1.item (X.blk s3 H3 scope ce fp) rfl rfl rfl hc j _ s12 (wipe σ8 vs1) H12 (fun _ _ => False) I12 (own2 n12) st12 go1) fun r s13 ⟨u1, hr, h13⟩ => ?_
          subst hr
          refine thnF h13 fun _ s14 ⟨x1, H14, I14, r14, y14, st14, n14⟩ => ?_
          have I14' := I14.pinned (own2 n14) (T1.obj _ _ st14)
          refine thnF (pg1.run _ s14 (wipe σ8 vs1) H14 x1 u1 _ I14' r14 (step1 x1 H14 y14)) fun _ s15 ⟨σ15, H15, I15, hw15, q15⟩ => ?_
          refine thnF (pk.run _ s15 σ15 H15 _ I15 q15) fun kz s16 ⟨yk, H16, I16, r16, q16⟩ => ?_
          refine thnF (pe.run _ s16 σ15 H16 _ I16 q16) fun vz s17 ⟨yv, H17, I17, r17, kvs, kk, ek, hD17, hz17, nx⟩ => ?_
          subst ek
          refine d_dictSet (X := X.blk s3 H3 scope ce fp) I17 hD17 hz17 r16 r17 fun s18 I18 => ?_
          obtain ⟨m', hm, w'⟩ := hNx1 _ nx
          have pin' : ∀ b ∈ fp1, ∀ o, s14.heap.get? b = some o → s18.heap.get? b = some o ∧ (upd H17 D (.dK (putK kvs kk yv))) b = none := fun b hb o e =>
            let z := I18.pin (b, o) (List.mem_append_right _ (List.mem_append_right _ (mem_pinsAt hb e)))
            ⟨z.1, z.2.1⟩
          refine ⟨m', hm, j + 1, _, I18.unpinned.weak (by rw [← hw15, wipe_length]) (fun j v e => by rw [← hw15] at e; exact (wipe_some e).1), T1.keep _ _ _ st14 fun b hb o e => (pin' b hb o e).1, fun b hb => ?_, w'⟩
          obtain ⟨o, e, _⟩ := T1.obj _ _ st14 b hb
          exact (pin' b hb o e).2
      exact dc2_begin1 loop1 (T1.self X.A 0 _ _ _ st11 loop1)
  exact codeAny_compStart_dict loop (T.self X.A 0 _ _ _ st4 loop)
end
end Qd
set_option maxHeartbeats 2000000
namespace Qd
open PySem PySem.Spec PyProof.Rows L2
section
variable {W : Wd} {H0 : Hp} {X : Cx} {a b c e : Expr} {es : List Expr} {we wa wb wc : WE} {pos p : Pos} {x : Str}
/-- two clauses: the inner one runs through wDcL -/
def wDc2L (g : WG) (wl1 : WP) (g1 : WG) (tk te : WE) (vs1 : List Nat) : List PyData → List (Key × PyData) → En → (List (Key × PyData) → Prop) → Prop
  | [], acc, _, Q => Q acc
  | d :: ds, acc, ρ, Q => g d ρ fun ρ2 => wl1 ρ2 fun es => wDcL g1 wYes tk te es acc (wipeR ρ2 vs1) fun acc' => wDc2L g wl1 g1 tk te vs1 ds acc' ρ Q
def wSetDc2 (i : Nat) (wl : WP) (g : WG) (wl1 : WP) (g1 : WG) (tk te : WE) (vs vs1 : List Nat) : WS := fun E ρ => wl ρ fun ds => wDc2L g wl1 g1 tk te vs1 ds [] (wipeR ρ vs) fun kvs => E.nx (ρ.set i (.dK kvs))
theorem EnvOk.apart {K : PySem.W.Frag} {F H : Hp} {σ : L2.St} {ρ : En} {D : Addr} {o : HO} (ev : EnvOk K W H0 F H σ ρ) (hD : H D = none) : EnvOk K W (upd H0 D o) F H σ ρ := by
  refine ⟨ev.len, fun i => ?_, ev.uniq⟩
  have q := ev.slot i
  cases z : ρ.getD i .no with
  | lst ds =>
    rw [z] at q
    obtain ⟨a, xs, e1, e2, e3, e4, e5, e6⟩ := q
    exact ⟨a, xs, e1, e2, e3, e4, e5, by rw [upd_ne (fun y => by rw [y, hD] at e2; cases e2)]; exact e6⟩
  | dK ds =>
    rw [z] at q
    obtain ⟨a, xs, e1, e2, e3, e4, e5, e6⟩ := q
    exact ⟨a, xs, e1, e2, e3, e4, e5, by rw [upd_ne (fun y => by rw [y, hD] at e2; cases e2)]; exact e6⟩
  | dT ds =>
    rw [z] at q
    obtain ⟨a, xs, e1, e2, e3, e4, e5, e6⟩ := q
    exact ⟨a, xs, e1, e2, e3, e4, e5, by rw [upd_ne (fun y => by rw [y, hD] at e2; cases e2)]; exact e6⟩
  | no => exact trivial
  | val d => rw [z] at q; exact q
  | st => rw [z] at q; exact q
theorem EnvOk.aside {K : PySem.W.Frag} {F H : Hp} {σ : L2.St} {ρ : En} {D : Addr} {o : HO} (ev : EnvOk K W H0 F H σ ρ) (hD : H0 D ≠ none) : EnvOk K W H0 F (upd H D o) σ ρ := by
  refine ⟨ev.len, fun i => ?_, ev.uniq⟩
  have q := ev.slot i
  cases z : ρ.getD i .no with
  | lst ds =>
    rw [z] at q
    obtain ⟨a, xs, e1, e2, e3, e4, e5, e6⟩ := q
    exact ⟨a, xs, e1, by rw [upd_ne (fun y => hD (by rw [← y]; exact e6))]; exact e2, e3, e4, e5, e6⟩
  | dK ds =>
    rw [z] at q
    obtain ⟨a, xs, e1, e2, e3, e4, e5, e6⟩ := q
    exact ⟨a, xs, e1, by rw [upd_ne (fun y => hD (by rw [← y]; exact e6))]; exact e2, e3, e4, e5, e6⟩
  | dT ds =>
    rw [z] at q
    obtain ⟨a, xs, e1, e2, e3, e4, e5, e6⟩ := q
    exact ⟨a, xs, e1, by rw [upd_ne (fun y => hD (by rw [← y]; exact e6))]; exact e2, e3, e4, e5, e6⟩
  | no => exact trivial
  | val d => rw [z] at q; exact q
  | st => rw [z] at q; exact q
theorem dc2_run {K : PySem.W.Frag} {g g1 : WG} {wl1 : WP} {tk te : WE} {vs vs1 : List Nat} {σ : L2.St} {F H : Hp} {ρ : En} {P : List (Key × PyData) → Prop} {Q : VK} {J : It} {ds : List PyData} {F1 H1 : Hp} {D : Addr}
    (gd : Gd W F H) (gd1 : Gd W F1 H1) (r1 : Gr W F H F1 H1) (ev : EnvOk K W H0 F1 H1 σ ρ) (it : ItD K W F1 J ds) (hD : H1 D = none) (q : wDc2L g wl1 g1 tk te vs1 ds [] (wipeR ρ vs) P)
    (k : ∀ kvs, P kvs → ∀ a xs F' H', Gd W F' H' → Gr W F H F' H' → H a = none → H' a = some (.dK xs) → F' a = none → KvAll K F' xs kvs → Q (.ref a) H') :
    ∃ U : Nat → Nat → Hp → Prop, (∃ m, U 0 m (upd H1 D (.dK []))) ∧ ∀ i m H, U i m H →
      (J.stop i H ∧ Q (.ref D) H) ∨ (J.go i H ∧ ∃ Nx : Hp → Prop, (∀ H', Nx H' → ∃ m', m' < m ∧ U (i + 1) m' H') ∧ ∀ x H', J.yld i H x H' → lG K W (some vs) g x (wipe σ vs) H' fun σ2 H2 => wipe σ2 vs = wipe σ vs ∧
        lI K W wl1 σ2 H2 fun J1 H4 => ∃ U1 : Nat → Nat → Hp → Prop, (∃ m, U1 0 m H4) ∧ ∀ j k H, U1 j k H →
          (J1.stop j H ∧ Nx H) ∨ (J1.go j H ∧ ∃ Nx1 : Hp → Prop, (∀ H', Nx1 H' → ∃ k', k' < k ∧ U1 (j + 1) k' H') ∧ ∀ x H', J1.yld j H x H' → lG K W (some vs1) g1 x (wipe σ2 vs1) H' fun σ3 H5 => wipe σ3 vs1 = wipe σ2 vs1 ∧
            lE K W tk σ3 H5 fun y H6 => lE K W te σ3 H6 fun z H7 => ∃ kvs k, y = kV k ∧ H7 D = some (.dK kvs) ∧ kvs.length < sizeLine ∧ Nx1 (upd H7 D (.dK (putK kvs k z))))) := by
  have nm : ¬ W.M D := gd1.notM hD
  have hDH : H D = none := r1.none_of hD
  refine ⟨fun i m H2 => i + m = ds.length ∧ ∃ F2 acc xs, Gd W F2 H2 ∧ Gr W F1 H1 F2 H2 ∧ F2 D = none ∧ H2 D = some (.dK xs) ∧ KvAll K F2 xs acc ∧ wDc2L g wl1 g1 tk te vs1 (ds.drop i) acc (wipeR ρ vs) P,
    ⟨ds.length, by omega, F1, [], [], gd1.free (gd1.fnone hD) nm, Gr.new hD, gd1.fnone hD, upd_same, .nil, q⟩, ?_⟩
  rintro i m H2 ⟨hm, F2, acc, xs, g2, r2, fD, eD, ra, q2⟩
  by_cases hi : i < ds.length
  · have hd : ds.drop i = ds[i] :: ds.drop (i + 1) := List.drop_eq_getElem_cons hi
    rw [hd] at q2
    refine .inr ⟨it.go i F2 H2 g2 r2.f hi, fun H' => ∃ F' acc xs, Gd W F' H' ∧ Gr W F1 H1 F' H' ∧ F' D = none ∧ H' D = some (.dK xs) ∧ KvAll K F' xs acc ∧ wDc2L g wl1 g1 tk te vs1 (ds.drop (i + 1)) acc (wipeR ρ vs) P, fun H' z => ⟨m - 1, by omega, by omega, z⟩, fun x H3 y => ?_⟩
    obtain ⟨F3, g3, r3, rp⟩ := it.yld i ds[i] F2 H2 x H3 g2 r2.f (List.getElem?_eq_getElem hi) y
    have hD2 : H2 D ≠ none := by rw [eD]; simp
    have eD3 : H3 D = some (.dK xs) := r3.h D _ nm eD
    have fD3 : F3 D = none := (r3.n D hD2).trans fD
    have hD3 : H3 D ≠ none := by rw [eD3]; simp
    have r13 := r2.trans r3
    have hU : upd H0 D (.lst []) D ≠ none := by rw [upd_same]; simp
    refine ⟨F3, _, upd H0 D (.lst []), ds[i], _, g3, ((ev.apart hD).grow r13).wipe vs, rp, q2, fun ρ4 q4 σ4 ev4 s4 => ⟨(show wipe σ4 vs = wipe (wipe σ vs) vs from s4).trans (wipe_wipe σ vs), F3, ρ4, _, _, g3, ev4, q4, fun es q5 J1 F5 H5 g5 r5 it1 => ?_⟩⟩
    have eD5 : H5 D = some (.dK xs) := r5.h D _ nm eD3
    have fD5 : F5 D = none := (r5.n D hD3).trans fD3
    refine ⟨fun j k H6 => j + k = es.length ∧ ∃ F6 acc xs, Gd W F6 H6 ∧ Gr W F1 H1 F6 H6 ∧ (∀ b o, F5 b = some o → F6 b = some o) ∧ EnvOk K W (upd H0 D (.lst [])) F6 H6 σ4 ρ4 ∧ F6 D = none ∧ H6 D = some (.dK xs) ∧ KvAll K F6 xs acc ∧ wDcL g1 wYes tk te (es.drop j) acc (wipeR ρ4 vs1) fun acc' => wDc2L g wl1 g1 tk te vs1 (ds.drop (i + 1)) acc' (wipeR ρ vs) P,
      ⟨es.length, by omega, F5, acc, xs, g5, r13.trans r5, fun _ _ z => z, ev4.grow r5, fD5, eD5, kvAll_mono (r3.trans r5).f ra, q5⟩, ?_⟩
    rintro j k H6 ⟨hk, F6, acc6, xs6, g6, r6, f6, ev6, fD6, eD6, ra6, q6⟩
    by_cases hj : j < es.length
    · have he : es.drop j = es[j] :: es.drop (j + 1) := List.drop_eq_getElem_cons hj
      rw [he] at q6
      refine .inr ⟨it1.go j F6 H6 g6 f6 hj, fun H' => ∃ F' acc xs, Gd W F' H' ∧ Gr W F1 H1 F' H' ∧ (∀ b o, F5 b = some o → F' b = some o) ∧ EnvOk K W (upd H0 D (.lst [])) F' H' σ4 ρ4 ∧ F' D = none ∧ H' D = some (.dK xs) ∧ KvAll K F' xs acc ∧ wDcL g1 wYes tk te (es.drop (j + 1)) acc (wipeR ρ4 vs1) fun acc' => wDc2L g wl1 g1 tk te vs1 (ds.drop (i + 1)) acc' (wipeR ρ vs) P, fun H' z => ⟨k - 1, by omega, by omega, z⟩, fun x7 H7 y7 => ?_⟩
      obtain ⟨F7, g7, r7, rp7⟩ := it1.yld j es[j] F6 H6 x7 H7 g6 f6 (List.getElem?_eq_getElem hj) y7
      have hD6 : H6 D ≠ none := by rw [eD6]; simp
      have eD7 : H7 D = some (.dK xs6) := r7.h D _ nm eD6
      have fD7 : F7 D = none := (r7.n D hD6).trans fD6
      have hD7 : H7 D ≠ none := by rw [eD7]; simp
      refine ⟨F7, _, _, es[j], _, g7, (ev6.grow r7).wipe vs1, rp7, q6, fun ρ8 q8 σ8 ev8 s8 => ⟨(show wipe σ8 vs1 = wipe (wipe σ4 vs1) vs1 from s8).trans (wipe_wipe σ4 vs1), F7, ρ8, _, _, g7, ev8, q8, fun dk qd vk F9 H9 g9 r9 rk => ?_⟩⟩
      have eD9 : H9 D = some (.dK xs6) := r9.h D _ nm eD7
      have fD9 : F9 D = none := (r9.n D hD7).trans fD7
      have hD9 : H9 D ≠ none := by rw [eD9]; simp
      refine ⟨F9, ρ8, _, _, g9, ev8.grow r9, qd, fun dv qv vv F10 H10 g10 r10 rv => ?_⟩
      have eD10 : H10 D = some (.dK xs6) := r10.h D _ nm eD9
      have fD10 : F10 D = none := (r10.n D hD9).trans fD9
      cases ek : keyD dk with
      | none => rw [ek] at qv; exact qv.elim
      | some kk =>
        rw [ek] at qv
        obtain ⟨hz, qv⟩ := qv
        have r610 := (r7.trans r9).trans r10
        exact ⟨xs6, kk, key_v rk ek, eD10, by rw [kv_len ra6]; exact hz, F10, _, _, g10.free fD10 nm, (r6.trans r610).chg hD, fun b o z => r610.f b o (f6 b o z), (ev6.grow r610).aside hU, fD10, upd_same, kv_put kk rv (kvAll_mono r610.f ra6), qv⟩
    · have hl : j = es.length := by omega
      subst hl
      rw [List.drop_length] at q6
      exact .inl ⟨it1.stop F6 H6 g6 f6, F6, acc6, xs6, g6, r6, fD6, eD6, ra6, q6⟩
  · have hl : i = ds.length := by omega
    subst hl
    rw [List.drop_length] at q2
    exact .inl ⟨it.stop F2 H2 g2 r2.f, k acc q2 D xs F2 H2 g2 (r1.trans r2) hDH eD fD ra⟩
theorem ds_setDc2 {i : Nat} {y : Str} {py : Pos} {kx vx tg iter tg1 iter1 : Expr} {scope : Scope} {own : List (Str × Nat)} {vs1 : List Nat} {spos : Pos} {wl wl1 : WP} {g g1 : WG} {tk te : WE} (hN : X.N.Nodup) (hy : X.N[i]? = some y) (hx : Loc X.env.scope y) (hc : X.calm = true) (hi : DI W X tg iter wl) (ok : BlkOk X.N X.env.scope scope own) (hv : ∀ i ∈ vs1, i ∈ own.map (·.2))
    (hg : ∀ (s : Shared) (H : Hp) (C : Addr) (cl : List (Str × Addr)) (fp : List Addr), DG W (X.blk s H scope (compEnvC scope cl C X.env) fp) (some (own.map (·.2))) tg g)
    (hi1 : ∀ (s : Shared) (H : Hp) (C : Addr) (cl : List (Str × Addr)) (fp : List Addr), DI W (X.blk s H scope (compEnvC scope cl C X.env) fp) tg1 iter1 wl1)
    (hg1 : ∀ (s : Shared) (H : Hp) (C : Addr) (cl : List (Str × Addr)) (fp : List Addr), DG W (X.blk s H scope (compEnvC scope cl C X.env) fp) (some vs1) tg1 g1)
    (hk : ∀ (s : Shared) (H : Hp) (C : Addr) (cl : List (Str × Addr)) (fp : List Addr), DE W (X.blk s H scope (compEnvC scope cl C X.env) fp) kx tk)
    (he : ∀ (s : Shared) (H : Hp) (C : Addr) (cl : List (Str × Addr)) (fp : List Addr), DE W (X.blk s H scope (compEnvC scope cl C X.env) fp) vx te) (hs : ∀ x, foldedSetIterable iter X.env x = pure x := by intro _; rfl) (hs1 : ∀ env x, foldedSetIterable iter1 env x = pure x := by intro _ _; rfl)
    (hsw : swapsWith (dc2 kx vx tg iter tg1 iter1 scope pos) (some (.Name y py)) spos.line X.env = pure false := by rfl) (hf : X.fn y = true ∨ X.env.scope.names.lookup y = some .local := by first | exact .inl rfl | exact .inr rfl | assumption) :
    DS W H0 X (.Assign [.Name y py] (dc2 kx vx tg iter tg1 iter1 scope pos) spos) (wSetDc2 i wl g wl1 g1 tk te (own.map (·.2)) vs1) :=
  ps_weak (ps_set hN hy hx (pe_dc2 (g := lG X.K W (some (own.map (·.2))) g) (wi1 := lI X.K W wl1) (g1 := lG X.K W (some vs1) g1) (tk := lE X.K W tk) (tv := lE X.K W te) hc hN hi ok hv hg hi1 hg1 hk he hs hs1) hsw hf) fun Dn σ H h => by
    obtain ⟨F0, F, ρ, E, gd, r, ev, h, im⟩ := h
    refine ⟨F, ρ, H0, _, gd, ev, h, fun ds q J F1 H1 g1 r1 it D hD => dc2_run (Q := fun x H1 => gName i x σ H1 Dn.nx) gd g1 r1 (ev.grow r1) it hD q fun kvs p a xs F' H' g' r' hn ha hf rk => ?_⟩
    refine im.nx _ p _ F' H' g' (r.trans r') ((ev.grow r').set i (b := .dK kvs) ⟨a, xs, rfl, ha, rk, hf, gd.notM hn, r.none_of hn⟩ fun _ c j hc oj ej => ?_)
    cases hc
    exact (ev.owned oj ej).1 hn
end
end Qd
set_option maxHeartbeats 2000000
namespace Qd
open PySem PySem.Spec PySem.Calls PyProof.Rows PySem.W L2
/-! ### sorted of a list of tuples of ints -/
def IsIt (h : Heap) (v : Value) (ns : List Int) : Prop := ∃ a dd items n sl, v = .ref a ∧ h.get? a = some { cls := .type "tuple", dict := dd, data := .seq items n, slots := sl } ∧ IntsAre items.toList ns
theorem IsIt.keeps {h h' : Heap} {v : Value} {ns : List Int} (x : IsIt h v ns) (k : ∀ b o, v = .ref b → h.get? b = some o → h'.get? b = some o) : IsIt h' v ns := by
  obtain ⟨a, dd, items, n, sl, e, g, i⟩ := x
  exact ⟨a, dd, items, n, sl, e, k _ _ e g, i⟩
section
variable {prog : Program} {w : World} {A : Around} {E : Value → Shared → Prop} {s : Shared}
theorem lex_walk {b fin : Bool} {Q : Bool → Shared → Prop} {ns : List Int} {vs : List Value} (hv : IntsAre vs ns) : ∀ {ms : List Int} {ws : List Value} (i : Nat), IntsAre ws ms → fin = decide (ns.length < ms.length) → Q (HT.lexLt ns ms) s → KatLex prog w A b fin Q (vs.zip ws) i s := by
  induction hv with
  | nil =>
    intro ms ws i hw hf h
    rw [List.zip_nil_left]
    refine kat_nil ?_
    cases hw with
    | nil => rw [hf]; exact h
    | cons c u hw => rw [hf]; exact h
  | cons x t hv ih =>
    intro ms ws i hw hf h
    cases hw with
    | nil =>
      rw [List.zip_nil_right]
      refine kat_nil ?_
      rw [hf]
      exact h
    | cons y u hw =>
      rw [List.zip_cons_cons]
      refine kat_cons (SeqAt.EqAt.int_int x t y u prog w _ _ ?_)
      rw [HT.lexLt_cons] at h
      refine kat_go (fun e => ?_) (fun e => ?_)
      · have ex : x = y := by simpa using e
        rw [if_pos ex] at h
        refine kat_yes (ih (i + 1) hw ?_ h)
        rw [hf]
        simp only [List.length_cons, Nat.add_lt_add_iff_right]
      · have ex : ¬ x = y := by simpa using e
        rw [if_neg ex] at h
        refine kat_no ?_
        cases hb : (b && i == 0) with
        | true => exact oneLt_int h
        | false => exact kat_one _ _ (PyProof.Rows.lt_int h)
theorem it_lt {b : Bool} {v u : Value} {ns ms : List Int} {Q : Bool → Shared → Prop} (hv : IsIt s.heap v ns) (hu : IsIt s.heap u ms) (h : Q (HT.lexLt ns ms) s) : wpAny (model prog w) A (keyLt' (tuples' b) v u) Q E s := by
  obtain ⟨a, d1, xs, n1, s1, rfl, g1, i1⟩ := hv
  obtain ⟨c, d2, ys, n2, s2, rfl, g2, i2⟩ := hu
  refine kat_lt g1 rfl g2 rfl (lex_walk i1 0 i2 ?_ h)
  rw [← i1.length, ← i2.length, Array.length_toList, Array.length_toList]
theorem it_lt1 {v u : Value} {ns ms : List Int} {Q : Bool → Shared → Prop} (hr : A.units < cLine) (hv : IsIt s.heap v ns) (hu : IsIt s.heap u ms) (h : Q (HT.lexLt ns ms) s) : wpAny (model prog w) A (keyLt' oneType' v u) Q E s := by
  obtain ⟨a, d1, xs, n1, s1, rfl, g1, i1⟩ := hv
  obtain ⟨c, d2, ys, n2, s2, rfl, g2, i2⟩ := hu
  rw [keyLt'_oneType, oneLt'_eq]
  simp only [if_true]
  refine wpAny_bind (wpAny_cRoomFor hr ?_)
  refine wpAny_bind (wpAny_callSpecialIfBound?_slot (T := "tuple") ⟨_, g1, rfl⟩ PySem.F.slot_tuple_lt (call_meets PySem.F.slot_tuple_lt ⟨_, g1, rfl⟩ PySem.F.entry_tuple_lt (PySem.F.args_tuple_lt_2 _ _) (HT.tuple_lt_ints a c xs ys n1 n2 d1 d2 s1 s2 ns ms i1 i2) ⟨g1, g2, ?_⟩))
  exact wpAny_truthy_bool h
/-- the first items, none of () -/
theorem it_firsts {k : Value → List Int} {M : Model} : ∀ (vs : List Value) {Q : List (Option Value) → Shared → Prop}, (∀ v ∈ vs, IsIt s.heap v (k v)) →
    (∀ fs : List (Option Value), fs.length = vs.length → (∀ (i : Nat) (v : Value) (f : Option Value), vs[i]? = some v → fs[i]? = some f → (k v = [] → f = none) ∧ (k v ≠ [] → ∃ x t, f = some (Value.int x t))) → Q fs s) → wpAny M A (vs.mapM firstOfTuple') Q E s
  | [], Q, _, h => by
    rw [List.mapM_nil]
    exact wpAny_pure (h [] rfl fun i v f e => by simp at e)
  | v :: vs, Q, hv, h => by
    obtain ⟨a, d1, xs, n1, s1, rfl, g1, i1⟩ := hv v (.head _)
    rw [List.mapM_cons]
    refine wpAny_bind ?_
    rw [kas_first_eq]
    refine wpAny_bind (Looks.here (show Looks M s.heap (typeOf (.ref a)) (.type "tuple") from (Looks.ld g1).andThen .now) ?_)
    rw [if_neg (by first | decide | simp)]
    refine wpAny_bind (listItems_at g1 rfl (wpAny_pure ?_))
    refine wpAny_bind (it_firsts vs (fun u hu => hv u (.tail _ hu)) fun fs hl hf => wpAny_pure (h (xs[0]? :: fs) (by simp [hl]) fun i u f e1 e2 => ?_))
    cases i with
    | zero =>
      simp at e1 e2
      subst e1 e2
      rw [← Array.getElem?_toList]
      generalize k (.ref a) = ns at i1
      generalize xs.toList = l at i1
      cases i1 with
      | nil => exact ⟨fun _ => rfl, fun z => absurd rfl z⟩
      | cons x t i1 => exact ⟨fun z => (nomatch z), fun _ => ⟨x, t, rfl⟩⟩
    | succ i => exact hf i u f (by simpa using e1) (by simpa using e2)
theorem it_kindT {k : Value → List Int} {M : Model} {vs : List Value} {Q : SortKind → Shared → Prop} (hv : ∀ v ∈ vs, IsIt s.heap v (k v)) (hne : ∀ v ∈ vs, k v ≠ []) (h0 : 0 < vs.length) (h : Q (tuples' true) s) : wpAny M A (keyKind' vs.toArray) Q E s := by
  have key : ∀ {vs : List Value}, (∀ v ∈ vs, IsIt s.heap v (k v)) → (∀ v ∈ vs, k v ≠ []) → ∃ fs, KatTups s.heap vs fs ∧ fs.length = vs.length ∧ ∀ f ∈ fs, ∃ x t, f = Value.int x t := by
    intro vs
    induction vs with
    | nil => exact fun _ _ => ⟨[], KatTups.nil, rfl, fun f hf => nomatch hf⟩
    | cons v vs ih =>
      intro hv hne
      obtain ⟨fs, t1, t2, t3⟩ := ih (fun u hu => hv u (.tail _ hu)) fun u hu => hne u (.tail _ hu)
      obtain ⟨a, d1, xs, n1, s1, rfl, g1, i1⟩ := hv v (.head _)
      have hn := hne (.ref a) (.head _)
      have hx : ∃ x t, xs[0]? = some (Value.int x t) := by
        rw [← Array.getElem?_toList]
        generalize k (.ref a) = ns at i1 hn
        generalize xs.toList = l at i1
        cases i1 with
        | nil => exact absurd rfl hn
        | cons x t i1 => exact ⟨x, t, rfl⟩
      obtain ⟨x, t, hx⟩ := hx
      refine ⟨.int x t :: fs, KatTups.cons g1 rfl rfl hx t1, by simp [t2], fun f hf => ?_⟩
      rcases List.mem_cons.mp hf with z | hf
      · exact ⟨x, t, z⟩
      · exact t3 f hf
  obtain ⟨fs, t1, t2, t3⟩ := key hv hne
  refine kat_kind (T := .type "int") t1 (by omega) (fun f hm => ?_) (by rfl) ?_
  · obtain ⟨x, t, rfl⟩ := t3 f hm
    exact Looks.now
  · have e : (Value.type "int" != Value.type "tuple") = true := by first | decide +kernel | rfl | decide
    rw [e]
    exact h
theorem it_kind1 {k : Value → List Int} {M : Model} {v : Value} {vs : List Value} {Q : SortKind → Shared → Prop} (hv : ∀ u ∈ v :: vs, IsIt s.heap u (k u)) (h0 : k v = []) (h : Q oneType' s) : wpAny M A (keyKind' (v :: vs).toArray) Q E s := by
  rw [kat_kind_eq, List.mapM_toArray, map_eq_pure_bind]
  refine wpAny_bind (wpAny_bind (it_firsts (v :: vs) hv fun fs hl hf => wpAny_pure ?_))
  cases fs with
  | nil => cases hl
  | cons f fs =>
    have f0 : f = none := (hf 0 v f rfl rfl).1 h0
    subst f0
    have n1 : ¬ (((none :: fs : List (Option Value)).toArray.all fun x => x.isSome) = true) := by simp
    have n2 : ¬ (((none :: fs : List (Option Value)).toArray[0]?.bind id).isSome = true) := by simp
    rw [if_neg n1, if_neg n2]
    have hT : ∀ u ∈ v :: vs, Looks M s.heap (typeOf u) (.type "tuple") := fun u hu => by
      obtain ⟨a, d1, xs, n1, s1, rfl, g1, i1⟩ := hv u hu
      exact (Looks.ld g1).andThen .now
    rw [oneTypeOnly'_eq, List.mapM_toArray, map_eq_pure_bind]
    refine wpAny_bind (wpAny_bind (wpAny_bind (kas_mapM (r := Value.type "tuple") _ (fun u hu Q' hq => (hT u hu).here hq) (wpAny_pure ?_))))
    have hall : ((List.map (fun _ => Value.type "tuple") (v :: vs)).toArray.all fun x => x == Value.type "tuple") = true := by
      simp only [List.all_toArray, List.all_map, List.all_eq_true]
      intro _ _
      exact beq_self_eq_true _
    have h0 : (List.map (fun _ => Value.type "tuple") (v :: vs)).toArray[0]? = some (Value.type "tuple") := by simp
    rw [h0]
    simp only [hall, if_true]
    exact wpAny_pure (wpAny_pure h)
/-- sorted(l) -/
theorem it_sorted {l : Addr} {vs : List Value} {k : Value → List Int} {Q : Value → Shared → Prop} (hr : A.units + 2 < cLine) (hl : s.heap.IsList l vs.toArray) (hz : vs.length ≤ sizeLine) (hv : ∀ v ∈ vs, IsIt s.heap v (k v))
    (hk : (∀ v ∈ vs, k v ≠ []) ∨ ∃ v r, vs = v :: r ∧ k v = [])
    (h : ∀ out : List Value, out.Pairwise (fun v u => HT.lexLt (k u) (k v) = false) → out.Perm vs → Q (.ref (s.heap.objs.size + 1)) { s with heap := PyProof.Rows.sortedAll s.heap vs out.toArray }) :
    wpAny (model prog w) A (call (.builtin "sorted") [.ref l]) Q E s := by
  refine SrtO.sorted_ord (NtL.swo_lexL k) hl hz (fun h2 h1 a ha kk h' keep => ?_) fun out hs hb => h out hs hb.perm
  have hv' : ∀ v ∈ vs, IsIt h' v (k v) := fun v hm => (hv v hm).keeps fun b o e g => keep b o (kk b o g).1 (kk b o g).2
  rcases hk with hk | ⟨v, r, rfl, hk⟩
  · exact ⟨tuples' true, fun Q E hq => it_kindT (s := { s with heap := h' }) hv' hk (by omega) hq, fun p q hp hq => it_lt (Q := fun r s' => s' = { s with heap := h' } ∧ r = HT.lexLt (k p.1) (k q.1)) (E := fun _ _ => False) (s := { s with heap := h' }) (hv' _ hp) (hv' _ hq) ⟨rfl, rfl⟩⟩
  · exact ⟨oneType', fun Q E hq => it_kind1 (s := { s with heap := h' }) hv' hk hq, fun p q hp hq => it_lt1 (Q := fun r s' => s' = { s with heap := h' } ∧ r = HT.lexLt (k p.1) (k q.1)) (E := fun _ _ => False) (s := { s with heap := h' }) hr (hv' _ hp) (hv' _ hq) ⟨rfl, rfl⟩⟩
end
/-! as a rule -/
def intsT : PyData → List Int
  | .tuple ds => (intsD ds).getD []
  | _ => []
def isIT : PyData → Bool
  | .tuple ds => (intsD ds).isSome
  | _ => false
def rSortT : RF := fun ds Q => match ds with
  | [.list es] => (es.all isIT = true ∧ ((∀ e ∈ es, intsT e ≠ []) ∨ es.head?.map intsT = some [])) ∧ ∀ out : List PyData, out.Perm es → out.Pairwise (fun a b => HT.lexLt (intsT b) (intsT a) = false) → Q out
  | _ => False
def iOf : V → Int
  | .int i => i
  | _ => 0
def kOf (H : Hp) : Value → List Int
  | .ref t => (match H t with
    | some (.tup xs) => xs.map iOf
    | _ => [])
  | _ => []
theorem rpAll_perm {K : PySem.W.Frag} {F : Hp} {xs ys : List V} (p : ys.Perm xs) : ∀ {ds : List PyData}, RpAll K F xs ds → ∃ es : List PyData, es.Perm ds ∧ RpAll K F ys es := by
  induction p with
  | nil => exact fun {ds} h => ⟨ds, .refl _, h⟩
  | cons x p ih =>
    intro ds h
    cases h with
    | cons h1 h2 =>
      obtain ⟨es, q, r⟩ := ih h2
      exact ⟨_ :: es, q.cons _, .cons h1 r⟩
  | swap x y l =>
    intro ds h
    cases h with
    | cons h1 h2 =>
      cases h2 with
      | cons h2 h3 => exact ⟨_ :: _ :: _, List.Perm.swap .., .cons h2 (.cons h1 h3)⟩
  | trans p q ih1 ih2 =>
    intro ds h
    obtain ⟨es, q1, r1⟩ := ih2 h
    obtain ⟨es', q2, r2⟩ := ih1 r1
    exact ⟨es', q2.trans q1, r2⟩
theorem it_of {K : PySem.W.Frag} {F : Hp} {v : V} {d : PyData} (r : Rp K F v d) (h : isIT d = true) : ∃ t ns, v = .ref t ∧ F t = some (.tup (ns.map V.int)) ∧ intsT d = ns := by
  cases r with
  | tup hs ha =>
    rename_i a xs ds
    have h' : (intsD ds).isSome = true := h
    cases e : intsD ds with
    | none => rw [e] at h'; cases h'
    | some ns =>
      cases ints_v ha e
      refine ⟨a, ns, rfl, hs, ?_⟩
      show (intsD ds).getD [] = ns
      rw [e]
      rfl
  | _ => cases h
theorem it_refs {K : PySem.W.Frag} {F : Hp} : ∀ {xs : List V} {ds : List PyData}, RpAll K F xs ds → ds.all isIT = true → ∀ x ∈ xs, ∃ a, x = V.ref a
  | [], _, _, _ => fun x hx => nomatch hx
  | _ :: _, _, h, ha => by
    cases h with
    | cons r1 r2 =>
      rw [List.all_cons, Bool.and_eq_true] at ha
      intro x hx
      rcases List.mem_cons.mp hx with z | hx
      · obtain ⟨t, ns, e, _⟩ := it_of r1 ha.1
        exact ⟨t, z.trans e⟩
      · exact it_refs r2 ha.2 x hx
theorem iOf_map (ns : List Int) : (ns.map V.int).map iOf = ns := by
  rw [List.map_map]
  exact (List.map_congr_left fun _ _ => rfl).trans (List.map_id ns)
theorem k_map {K : PySem.W.Frag} {F H : Hp} (hF : ∀ b o, F b = some o → H b = some o) : ∀ {us : List Value} {ds : List PyData}, RpAll K F (us.map backV) ds → (∀ u ∈ us, ∃ a, u = Value.ref a) → ds.all isIT = true → us.map (kOf H) = ds.map intsT
  | [], _, h, _, _ => by cases h; rfl
  | u :: us, _, h, hu, ha => by
    cases h with
    | cons h1 h2 =>
      rw [List.all_cons, Bool.and_eq_true] at ha
      obtain ⟨a, rfl⟩ := hu u (.head _)
      obtain ⟨t, ns, e, hs, ei⟩ := it_of h1 ha.1
      cases e
      rw [List.map_cons, List.map_cons, k_map hF h2 (fun u hu' => hu u (.tail _ hu')) ha.2, ei]
      congr 1
      show (match H a with
        | some (.tup xs) => xs.map iOf
        | _ => []) = ns
      rw [hF _ _ hs]
      exact iOf_map ns
section
variable {W : Wd} {H0 : Hp} {X : Cx}
theorem cf_sorted (hu : X.A.units + 64 < cLine) : CallF W X (.builtin "sorted") rSortT := by
  intro pins s σ H xs us Q I rv h
  obtain ⟨F, ds, P, g, ps, h, k⟩ := h
  unfold rSortT at h
  split at h
  · rename_i es
    obtain ⟨v, rfl, sh⟩ := paired1 ps
    obtain ⟨a, xs, rfl, hs, rx⟩ := shl_list g sh
    obtain ⟨⟨ha, hk⟩, hq⟩ := h
    rw [Vals.ref1 rv]
    obtain ⟨its, r, hl, hz⟩ := I.list (.inl hs)
    have hrefs := it_refs rx ha
    obtain ⟨e1, e2⟩ := refs_back r hrefs
    subst e1
    have km := k_map g.sub rx e2 ha
    have hit : ∀ {us : List Value} {ds : List PyData}, RpAll X.K F (us.map backV) ds → (∀ u ∈ us, ∃ a, u = Value.ref a) → ds.all isIT = true → ∀ v ∈ us, IsIt s.heap v (kOf H v) := by
      intro us
      induction us with
      | nil => exact fun _ _ _ v hv => nomatch hv
      | cons u us ih =>
        intro ds h hu ha v hv
        cases h with
        | cons h1 h2 =>
          rw [List.all_cons, Bool.and_eq_true] at ha
          rcases List.mem_cons.mp hv with z | hv
          · subst z
            obtain ⟨a, rfl⟩ := hu v (.head _)
            obtain ⟨t, ns, e, hs, ei⟩ := it_of h1 ha.1
            cases e
            have hH : H a = some (.tup (ns.map V.int)) := g.sub _ _ hs
            have ek : kOf H (Value.ref a) = ns := by
              show (match H a with
                | some (.tup xs) => xs.map iOf
                | _ => []) = ns
              rw [hH]
              exact iOf_map ns
            rw [ek]
            obtain ⟨_, its2, r2, ⟨cc, dd, dt, sl⟩, ho, hc, n, hd⟩ := I.hok _ _ hH
            simp only at hc hd
            subst hc hd
            exact ⟨a, dd, _, n, sl, rfl, ho, by simpa using intsAre_of r2⟩
          · exact ih h2 (fun u hu' => hu u (.tail _ hu')) ha.2 v hv
    refine it_sorted (k := kOf H) (by omega) hl.isList (by rw [← r.length]; exact hz) (hit rx e2 ha) ?_ fun out h1 h2 => ?_
    · rcases hk with hk | hk
      · refine .inl fun v hv q => ?_
        have : kOf H v ∈ es.map intsT := by rw [← km]; exact List.mem_map.mpr ⟨v, hv, rfl⟩
        obtain ⟨e, he, ee⟩ := List.mem_map.mp this
        exact hk e he (ee.trans q)
      · right
        cases its with
        | nil =>
          cases rx
          cases hk
        | cons v r' =>
          refine ⟨v, r', rfl, ?_⟩
          cases rx with
          | cons q1 q2 =>
            rw [List.map_cons, List.map_cons] at km
            have := (List.cons.inj km).1
            rw [this]
            exact Option.some.inj hk
    · obtain ⟨es', pe, re⟩ := rpAll_perm (h2.map backV) rx
      have eo : ∀ u ∈ out, ∃ a, u = Value.ref a := fun u hu => e2 u (h2.mem_iff.mp hu)
      have km' := k_map g.sub re eo (by rw [List.all_eq_true] at ha ⊢; exact fun d hd => ha d (pe.mem_iff.mp hd))
      obtain ⟨n, hn⟩ := sortedAll_at s.heap its out.toArray
      have fresh : H (s.heap.objs.size + 1) = none := I.hok.fresh (Nat.le_succ _)
      have hlen : (out.map backV).length ≤ sizeLine := by rw [List.length_map, h2.length_eq, ← r.length]; exact hz
      refine ⟨.ref (s.heap.objs.size + 1), upd H (s.heap.objs.size + 1) (.lst (out.map backV)), I.laid (t' := s.toks) (fun b o e => sortedAll_old e) (Nat.le_succ _) ⟨hlen, out, n, vals_back eo, hn⟩, rfl, ?_⟩
      refine k.laid g fresh (hq es' pe ?_) re
      have hp : (out.map (kOf H)).Pairwise (fun a b => HT.lexLt b a = false) := List.pairwise_map.mpr h1
      rw [km'] at hp
      exact List.pairwise_map.mp hp
  · exact h.elim
end
end Qd
set_option maxHeartbeats 2000000
namespace Qd
open PySem PySem.Spec PySem.Calls PyProof.Rows PySem.W L2
/-! ### sorted of a dict whose keys are tuples of ints -/
theorem kt_keys {H : Hp} {kvs : List (List Key × V)} {xs : List (List Key × Addr × Value)} (r : KT H kvs xs) : ∀ {ks : List (List Int)}, kvs.map (·.1) = ks.map (fun k => k.map Sum.inl) → Paired (fun (x : List Key × Addr × Value) (k : List Int) => H x.2.1 = some (.tup (k.map V.int))) xs ks := by
  induction r with
  | nil =>
    intro ks e
    cases ks with
    | nil => exact .nil
    | cons k ks => cases e
  | @cons p q ps qs h t ih =>
    intro ks e
    cases ks with
    | nil => cases e
    | cons k ks =>
      rw [List.map_cons, List.map_cons] at e
      obtain ⟨e1, e2⟩ := List.cons.inj e
      refine .cons ?_ (ih e2)
      rw [h.2.1, e1, List.map_map]
      rfl
theorem paired_perm {α β : Type} {R : α → β → Prop} {xs ys : List α} (p : ys.Perm xs) : ∀ {ds : List β}, Paired R xs ds → ∃ es : List β, es.Perm ds ∧ Paired R ys es := by
  induction p with
  | nil => exact fun {ds} h => ⟨ds, .refl _, h⟩
  | cons x p ih =>
    intro ds h
    cases h with
    | cons h1 h2 =>
      obtain ⟨es, q, r⟩ := ih h2
      exact ⟨_ :: es, q.cons _, .cons h1 r⟩
  | swap x y l =>
    intro ds h
    cases h with
    | cons h1 h2 =>
      cases h2 with
      | cons h2 h3 => exact ⟨_ :: _ :: _, List.Perm.swap .., .cons h2 (.cons h1 h3)⟩
  | trans p q ih1 ih2 =>
    intro ds h
    obtain ⟨es, q1, r1⟩ := ih2 h
    obtain ⟨es', q2, r2⟩ := ih1 r1
    exact ⟨es', q2.trans q1, r2⟩
def adr : Value → Addr
  | .ref a => a
  | _ => 0
def KAt (H : Hp) (v : Value) (k : List Int) : Prop := ∃ t, v = .ref t ∧ H t = some (.tup (k.map V.int))
theorem kat_map {H : Hp} {us : List Value} {ks : List (List Int)} (h : Paired (KAt H) us ks) : us.map (kOf H) = ks := by
  induction h with
  | nil => rfl
  | @cons u k us ks h t ih =>
    obtain ⟨a, rfl, e⟩ := h
    rw [List.map_cons, ih]
    congr 1
    show (match H a with
      | some (.tup xs) => xs.map iOf
      | _ => []) = k
    rw [e]
    exact iOf_map k
theorem pk_of {H : Hp} {xs : List (List Key × Addr × Value)} {ks : List (List Int)} (h : Paired (fun (x : List Key × Addr × Value) (k : List Int) => H x.2.1 = some (.tup (k.map V.int))) xs ks) : Paired (KAt H) (xs.map fun x => Value.ref x.2.1) ks := by
  induction h with
  | nil => exact .nil
  | cons e t ih => exact .cons ⟨_, rfl, e⟩ ih
theorem kat_mem {H : Hp} {us : List Value} {ks : List (List Int)} (h : Paired (KAt H) us ks) : ∀ v ∈ us, ∃ k, KAt H v k := by
  induction h with
  | nil => exact fun _ hv => nomatch hv
  | cons e t ih =>
    intro v hv
    rcases List.mem_cons.mp hv with z | hv
    · exact ⟨_, by rw [z]; exact e⟩
    · exact ih v hv
section
variable {X : Cx}
theorem call_sortedDT (hu : X.A.units + 64 < cLine) (hcalm : X.calm = true) : CallR X (.builtin "sorted") (fun xs H Q => ∃ (a : Addr) (kvs : List (List Key × V)) (ks : List (List Int)), xs = [.ref a] ∧ H a = some (.dT kvs) ∧ kvs.map (·.1) = ks.map (fun k => k.map Sum.inl) ∧ (∀ k ∈ ks, k ≠ []) ∧
    ∀ (us : List Value) (out : List (List Int)) p, Paired (KAt H) us out → out.Perm ks → out.Pairwise (fun a b => HT.lexLt b a = false) → H p = none → Q (.ref p) (upd H p (.lst (us.map backV)))) := by
  intro pins s σ H xs us Q I r q
  obtain ⟨a, kvs, ks, ex, hd, hks, hne, q⟩ := q
  subst ex
  obtain ⟨u, eu, rx⟩ := vals1 r
  subst eu
  cases rx
  obtain ⟨z, lo, xs, rel, o, es, ep, h1, h2, h3, h4, _, _⟩ := dt_of I.hok hd
  have hk0 := kt_keys rel hks
  have hl : xs.length = kvs.length := (Paired.length rel).symm
  have hes : es.size = xs.length := by rw [← Array.length_toList, h4, List.length_map]
  have h16 : es.size ≤ sizeLine := by rw [hes, hl]; exact z
  refine Calls.call_function_entry PyProof.Rows.kind_sorted PyProof.Rows.plain_sorted PyProof.Rows.entry_sorted (PyProof.Rows.args_sorted1 _) ?_
  unfold Builtin.«sorted»
  refine wpAny_bind (m := checkCount "sorted" 1 1 _) (wpAny_pure ?_)
  refine wpAny_bind (PySem.W.kdu_collect (A := X.A.in1) (PySem.KdlSrc.rawDict (es := es) (ep := ep) lo) (I.ok.hd hcalm) ⟨o, h1, h2, h3⟩ h16 fun h' tk acc hk hacc => ?_)
  have eacc : acc.toList = xs.map fun x => Value.ref x.2.1 := by
    refine List.ext_getElem? fun j => ?_
    rw [List.getElem?_map]
    cases e : acc.toList[j]? with
    | none =>
      have hj : xs.length ≤ j := by
        have q := List.getElem?_eq_none_iff.mp e
        rw [Array.length_toList, hacc.1, hes] at q
        exact q
      rw [List.getElem?_eq_none hj]
      rfl
    | some v =>
      obtain ⟨hj, ev⟩ := hacc.2 j v (by rw [← Array.getElem?_toList]; exact e)
      have hj' : j < xs.length := by rw [← hes]; exact hj
      rw [List.getElem?_eq_getElem hj']
      have e2 := entry_at (knd := tupleKind (mixKind X.prog X.w)) h4 j
      rw [Array.getElem?_eq_getElem hj, List.getElem?_eq_getElem hj'] at e2
      have e3 : es[j] = entryOfKey (tupleKind (mixKind X.prog X.w)) xs[j] := Option.some.inj e2
      rw [ev, e3]
      rfl
  have pk : Paired (KAt H) acc.toList ks := by rw [eacc]; exact pk_of hk0
  have km := kat_map pk
  have I1 : Inv X pins σ H { s with heap := h', toks := tk } := I.kept hk
  have hit : ∀ v ∈ acc.toList, IsIt h' v (kOf H v) := by
    intro v hv
    have hv' : ∃ k, KAt H v k := kat_mem pk v hv
    obtain ⟨k, t, rfl, hH⟩ := hv'
    have ek : kOf H (Value.ref t) = k := by
      show (match H t with
        | some (.tup xs) => xs.map iOf
        | _ => []) = k
      rw [hH]
      exact iOf_map k
    rw [ek]
    obtain ⟨_, its2, r2, ⟨cc, dd, dt, sl⟩, ho, hc, n, hdt⟩ := I1.hok _ _ hH
    simp only at hc hdt
    subst hc hdt
    exact ⟨t, dd, _, n, sl, rfl, ho, by simpa using intsAre_of r2⟩
  have hal : acc.toList.length ≤ sizeLine := by rw [Array.length_toList, hacc.1]; exact h16
  refine wpAny_bind (wpAny_newList ?_ hal)
  have hoL : (h'.push (seqObj "list" acc.toList.toArray 0)).get? h'.objs.size = some (seqObj "list" acc.toList.toArray 0) := Heap.get?_push_size _ rfl
  show wpAny _ _ _ _ _ { s with heap := h'.push (seqObj "list" acc.toList.toArray 0), toks := tk }
  refine wpAny_bind (wpAny_holding (wpAny_call_entry PyProof.Rows.slot_list_sort ⟨_, hoL, rfl⟩ PyProof.Rows.entry_list_sort
    (SrtO.list_sort_ord (s := { s with heap := h'.push (seqObj "list" acc.toList.toArray 0), toks := tk }) (NtL.swo_lexL (kOf H)) hoL hal (fun h2 h3 keep => ?_) fun out hs hb => ⟨_, rfl, ?_⟩) (PyProof.Rows.args_list_sort _)))
  · have hv' : ∀ v ∈ acc.toList, IsIt h3 v (kOf H v) := fun v hm => (hit v hm).keeps fun b o e g => keep b o (Nat.ne_of_lt (Heap.lt_size g)) (Heap.get?_push_of_some _ g)
    refine ⟨tuples' true, fun Q E hq => it_kindT (s := { s with heap := h3, toks := tk }) hv' (fun v hv => ?_) (by omega) hq, fun p q hp hq => it_lt (Q := fun r s' => s' = { s with heap := h3, toks := tk } ∧ r = HT.lexLt (kOf H p.1) (kOf H q.1)) (E := fun _ _ => False) (s := { s with heap := h3, toks := tk }) (hv' _ hp) (hv' _ hq) ⟨rfl, rfl⟩⟩
    exact hne _ (by rw [← km]; exact List.mem_map.mpr ⟨v, hv, rfl⟩)
  · obtain ⟨e', he'⟩ := PyProof.Rows.sortedHeap_at (vs := acc.toList) (out := out.toArray) hoL
    obtain ⟨ks', pe, re⟩ := paired_perm hb.perm pk
    have eo : ∀ u ∈ out, ∃ a, u = Value.ref a := fun u hu => let ⟨_, a, e, _⟩ := kat_mem re u hu; ⟨a, e⟩
    have km' := kat_map re
    have hlen : (out.map backV).length ≤ sizeLine := by rw [List.length_map, hb.perm.length_eq]; exact hal
    refine wpAny_pure ⟨_, rfl, .ref h'.objs.size, upd H h'.objs.size (.lst (out.map backV)), I1.laid (t' := tk) (fun b u e => ?_) (Nat.le_refl _) ⟨hlen, out, e', vals_back eo, he'⟩, rfl, q out ks' _ re pe ?_ (I1.hok.fresh (Nat.le_refl _))⟩
    · have hb : b < h'.objs.size := Heap.lt_size e
      rw [PyProof.Rows.sortedHeap_old (Nat.ne_of_lt hb) (by rw [size_push']; exact Nat.lt_succ_of_lt hb)]
      exact Heap.get?_push_of_some _ e
    · have hp : (out.map (kOf H)).Pairwise (fun a b => HT.lexLt b a = false) := List.pairwise_map.mpr hs
      rw [km'] at hp
      exact hp
end
def intKey : Key → Option Int
  | .inl i => some i
  | .inr _ => none
def intKeys : List Key → Option (List Int)
  | [] => some []
  | k :: r => match intKey k, intKeys r with
    | some i, some l => some (i :: l)
    | _, _ => none
def keysI : List (List Key × PyData) → Option (List (List Int))
  | [] => some []
  | p :: r => match intKeys p.1, keysI r with
    | some i, some l => some (i :: l)
    | _, _ => none
theorem intKeys_eq : ∀ {k : List Key} {l : List Int}, intKeys k = some l → k = l.map Sum.inl
  | [], l, h => by cases h; rfl
  | k :: r, l, h => by
    unfold intKeys at h
    cases e1 : intKey k with
    | none => rw [e1] at h; cases h
    | some i =>
      cases e2 : intKeys r with
      | none => rw [e1, e2] at h; cases h
      | some m =>
        rw [e1, e2] at h
        cases h
        rw [List.map_cons, ← intKeys_eq e2]
        cases k with
        | inl j => cases e1; rfl
        | inr j => cases e1
theorem keysI_eq {K : PySem.W.Frag} {F : Hp} {xs : List (List Key × V)} {kvs : List (List Key × PyData)} (r : KvAll K F xs kvs) : ∀ {ks : List (List Int)}, keysI kvs = some ks → xs.map (·.1) = ks.map (fun k => k.map Sum.inl) := by
  induction r with
  | nil => intro ks h; cases h; rfl
  | @cons p q ps qs h t ih =>
    intro ks e
    unfold keysI at e
    cases e1 : intKeys q.1 with
    | none => rw [e1] at e; cases e
    | some i =>
      cases e2 : keysI qs with
      | none => rw [e1, e2] at e; cases e
      | some m =>
        rw [e1, e2] at e
        cases e
        rw [List.map_cons, List.map_cons, ih e2, h.1, intKeys_eq e1]
def tupI (ns : List Int) : PyData := .tuple (ns.map PyData.int)
section
variable {W : Wd} {H0 : Hp} {X : Cx} {pos p : Pos}
def wSortDT (i : Nat) : WP := fun ρ Q => match ρ.getD i .no with
  | .dT kvs => (match keysI kvs with
    | some ks => (∀ k ∈ ks, k ≠ []) ∧ ∀ out : List (List Int), out.Perm ks → out.Pairwise (fun a b => HT.lexLt b a = false) → Q (out.map tupI)
    | none => False)
  | _ => False
theorem rp_keys {K : PySem.W.Frag} {W : Wd} {F H : Hp} (g : Gd W F H) {us : List Value} {out : List (List Int)} (h : Paired (KAt H) us out) : RpAll K F (us.map backV) (out.map tupI) := by
  induction h with
  | nil => exact .nil
  | @cons u k us ks h t ih =>
    obtain ⟨a, rfl, e⟩ := h
    exact .cons (.tup (g.tp _ _ e) (rp_ints k)) ih
theorem df_sortDT (i : Nat) {y : Str} {q : Pos} (hu : X.A.units + 64 < cLine) (hcalm : X.calm = true) (hg : Gl X "sorted") (hm : X.mg "sorted" = none) (hN : X.N[i]? = some y := by rfl) (hv : Vis X.env.scope y := by first | exact Or.inl rfl | exact Or.inr (Or.inl rfl) | exact Or.inr (Or.inr rfl)) (hd : (y == ("__debug__" : Str)) = false := by decide)
    (hcd : (y == ("__classdict__" : Str)) = false := by decide) (hs : starEach [.Name y q] X.env = (false, eval (.Name y q) X.env) :: starEach [] X.env := by rfl) : DF W X (.Call (.Name "sorted" p) [.Name y q] [] pos) (wSortDT i) :=
  pe_weak (pe_callB (call_sortedDT hu hcalm) hg hm PyProof.Rows.boot_sorted (pa_cons (pe_var hN hv hd hcd) pa_nil hs) (by decide) (by decide) hs rfl) fun σ H Q h => by
    obtain ⟨F, ρ, H0, P, g, ev, h, k⟩ := h
    unfold wSortDT at h
    have z := ev.slot i
    cases e : ρ.getD i .no with
    | dT kvs =>
      rw [e] at h z
      obtain ⟨a, xs, e1, e2, e3, _⟩ := z
      dsimp only at h
      cases ei : keysI kvs with
      | none => rw [ei] at h; exact h.elim
      | some ks =>
        rw [ei] at h
        refine ⟨_, getD_some e1, a, xs, ks, rfl, e2, keysI_eq e3 ei, h.1, fun us out p pk hp hw hn => ?_⟩
        exact k _ (h.2 out hp hw) p _ F _ (g.free (g.fnone hn) (g.notM hn)) (Gr.new hn) hn upd_same (g.fnone hn) (rp_keys g pk)
    | _ => rw [e] at h; exact h.elim
end
end Qd
set_option maxHeartbeats 2000000
namespace Qd
open PySem PySem.Spec PySem.Calls PyProof.Rows PySem.W L2
/-! ### the key (*path, 9), called -/
abbrev keyBody (j : Nat) (p1 p2 p3 p4 : Pos) : Expr := .Tuple [.Starred (.Name "path" p1) p2, .Constant (.int 9) j p3] 0 p4
section
variable {prog : Program} {w : World} {A : Around} {E : Value → Shared → Prop} {s : Shared}
theorem reads_ints {h : Heap} {vs : List Value} {ns : List Int} (r : IntsAre vs ns) : ReadsAll h vs (ns.map PyData.int) [] := by
  induction r with
  | nil => exact .nil
  | cons x t r ih => exact .cons (.int x t) ih
theorem lam_key {f t c' : Addr} {q : Str} {params : Arguments} {scope : Scope} {pm ctv : Value} {j : Nat} {p1 p2 p3 p4 : Pos} {its : Array Value} {ns : List Int} (hroom : A.depth + 2 < recursionLimit)
    (hf : s.heap.get? f = some (PySem.W.kla_obj "<lambda>" q params (keyBody j p1 p2 p3 p4) scope [] pm c' ctv)) (hk : scope.kind = .function) (hco : scope.isCoroutine = false) (hgen : scope.isGenerator = false) (hloc : scope.names.lookup ("path" : Str) = some NameKind.local) (hcell : ∀ x ∈ scope.names, x.2 ≠ .cell)
    (rec : s.heap.CodeRec (.ref c') q) (lim : s.heap.NoLimit) (hb : bindArgs (PySem.W.kla_fn "<lambda>" q params (keyBody j p1 p2 p3 p4) scope [] pm (.ref c') ctv) ⟨[.ref t], []⟩ = pure [(("path" : Str), Value.ref t)])
    (ht : s.heap.IsTuple t its) (hi : IntsAre its.toList ns) (hz : its.size + 1 ≤ sizeLine) :
    wpAny (model prog w) A (call (.ref f) [.ref t]) (KeyPure (.tuple (ns.map PyData.int ++ [.int 9])) s) E s := by
  refine wpAny_call (PySem.W.kla_callFunE (by omega) hf rfl hco hgen rfl rec ?_)
  rw [hb]
  refine wpAny_pure (wpAny_newFunctionEnv hcell (fun x hx => ?_) (fun h1 hns hsb => ⟨lim.fresh _ hsb, ?_⟩) hk)
  · rw [List.mem_singleton.mp hx]
    exact hloc
  · have kp : ∀ b o, s.heap.get? b = some o → h1.get? b = some o := fun b o e => hsb.extBut b o (Nat.ne_of_lt (Heap.lt_size e)) (Heap.get?_push_of_some _ e)
    refine PySem.W.kla_codeExpr ?_
    refine wpAny_Tuple_spliced ?_
    refine PySem.W.items_star ?_
    refine wpAny_Name (wpAny_loadName_local hk hloc hns (by rfl) ?_) (by decide)
    have ht1 : h1.IsTuple t its := ht.at fun o e => kp _ _ e
    obtain ⟨o, ho, hc, n, hd⟩ := id ht1
    have hT : Shared.TypeIs { s with heap := h1, toks := s.toks + [(("path" : Str), Value.ref t)].length } (.ref t) "tuple" := ⟨o, ho, hc⟩
    unfold PySem.W.StarOf notIterableAtAll
    refine wpAny_bind (wpAny_specialOf hT PySem.F.slot_tuple_iter.lookup (wpAny_pure ⟨rfl, ?_⟩))
    refine wpAny_collect_seq t (.inr rfl) ho hc hd (fun h2 hk2 => ?_) (by omega)
    refine spliced_cons (wpAny_Constant_int (k := j) (pos := p3) (spliced_nil ⟨by simp; omega, ?_⟩))
    refine ⟨_, _, rfl, fun b o e => Heap.get?_push_of_some _ (hk2 _ _ (kp _ _ e)), ?_⟩
    have key : ∀ (h : Heap) (tk : Tok), ReadsAll h (its.toList ++ [Value.int 9 tk]) (ns.map PyData.int ++ [.int 9]) [] := fun h tk => by
      have q : IntsAre (its.toList ++ [Value.int 9 tk]) (ns ++ [9]) := by
        clear hz ht ht1 ho hd
        generalize its.toList = l at hi
        induction hi with
        | nil => exact .cons _ _ .nil
        | cons x t r ih => exact .cons _ _ ih
      have q2 := reads_ints (h := h) q
      rw [List.map_append] at q2
      exact q2
    exact .tuple (Heap.get?_push_size _ rfl) rfl rfl (by simpa using key _ _)
end
end Qd
set_option maxHeartbeats 2000000
namespace Qd
open PySem PySem.Spec PySem.Calls PyProof.Rows PySem.W L2
open LamX (CodeO TabB inv_table among_app codeO_ne)
/-- what the world says of the table of code objects at P -/
structure LamW (W : Wd) (P : Addr) (q : Str) : Prop where
  m : W.M P
  tab : ∀ F H, W.J F H → ∃ ps : Array Value, H P = some (.tbl ps) ∧ TriplesOk ps.toList ∧ ∀ (pos : Pos) (cv : Value), codeAmong pos ps.toList = some cv → ∃ c, cv = .ref c ∧ F c = some (CodeO c q)
  put : ∀ F H F' H' (ps : Array Value), W.J F H → (∀ b o, F b = some o → F' b = some o) → (∀ b, W.M b → b ≠ P → H' b = H b) → H' P = some (.tbl ps) → TriplesOk ps.toList →
    (∀ (pos : Pos) (cv : Value), codeAmong pos ps.toList = some cv → ∃ c, cv = .ref c ∧ F' c = some (CodeO c q)) → W.J F' H'
section
variable {X : Cx} {pins : List (Addr × Obj)} {σ : L2.St} {H : Hp} {s : Shared}
/-- the lambda is made; what the heap is then, exactly -/
theorem lam_new {c P : Addr} {params : Arguments} {body : Expr} {scope : Scope} {pos : Pos} {ps : Array Value} {E : Value → Shared → Prop} {Q : Value → Shared → Prop} (I : Inv X pins σ H s) (TB : TabB X.base X.mg c P) (hcode : X.env.code = .ref c)
    (hP : H P = some (.tbl ps)) (ht : TriplesOk ps.toList) (ha : ∀ (pos : Pos) (cv : Value), codeAmong pos ps.toList = some cv → ∃ c, cv = .ref c ∧ H c = some (CodeO c (X.env.qual ++ "<lambda>"))) (hdef : defaultsOf params X.env = ([], [])) (hfree : ∀ y ∈ scope.names, y.2 = .free → ∃ c, X.env.cells.lookup y.1 = some c)
    (h : ∀ (f c' : Addr) (pm ctv : Value) (H1 : Hp) (s' : Shared), Inv X pins σ H1 s' →
      (H1 = H ∨ ∃ more : Array Value, H1 = upd (upd H P (.tbl (ps ++ more))) c' (CodeO c' (X.env.qual ++ "<lambda>")) ∧ H c' = none ∧ TriplesOk (ps ++ more).toList ∧ ∀ (p : Pos) (cv : Value), codeAmong p (ps ++ more).toList = some cv → codeAmong p ps.toList = some cv ∨ cv = .ref c') →
      H1 c' = some (CodeO c' (X.env.qual ++ "<lambda>")) → s'.heap.get? f = some (PySem.W.kla_obj "<lambda>" (X.env.qual ++ "<lambda>") params body scope (cloFrom X.env.cells scope.names []) pm c' ctv) → Q (.ref f) s') :
    wpAny (model X.prog X.w) X.A (eval (.Lambda params body scope pos) X.env) Q E s := by
  refine PySem.W.kla_eval hdef ?_
  have hP' : s.heap.get? P = some { cls := .none, data := .fields ps } := I.hok P _ hP
  cases hc : codeAmong pos ps.toList with
  | some cv =>
    obtain ⟨c', e, hco⟩ := ha pos cv hc
    subst e
    refine PySem.W.kla_makeFunctionHit (mg := X.mg) (c := c) (P := P) (ps := ps) (closure_ok hfree) I.ok.glob (I.mod.glob.keeps I.bk) hcode (TB.code.keeps I.bk) hP' ht hc (TB.bm.keeps I.bk) fun ctv h' tk hx hsz => ?_
    exact h h'.objs.size c' _ ctv H _ (I.kept fun b o e => Heap.get?_push_of_some _ (hx b o e)) (.inl rfl) hco (Heap.get?_push_size _ rfl)
  | none =>
    refine PySem.W.kla_makeFunction (mg := X.mg) (c := c) (P := P) (ps := ps) (closure_ok hfree) I.ok.glob (I.mod.glob.keeps I.bk) hcode (TB.code.keeps I.bk) hP' ht hc TB.gP (TB.bm.keeps I.bk) fun c' ctv h' tk hx hge hlt hrec htb => ?_
    obtain ⟨c2, oc, vs, t, e2, hoc, hd, hv⟩ := hrec
    cases e2
    have nC : H c' = none := I.hok.fresh hge
    have eL : (ps ++ #[rawInt pos.line, rawInt pos.col, .ref c']).toList = ps.toList ++ [rawInt pos.line, rawInt pos.col, .ref c'] := by simp
    refine h h'.objs.size c' _ ctv _ _ (inv_table (t' := tk) (more := #[rawInt pos.line, rawInt pos.col, .ref c']) I hP (fun b o hb e => Heap.get?_push_of_some _ (hx b o hb e)) (Heap.get?_push_of_some _ htb) hge ⟨oc, vs, t, Heap.get?_push_of_some _ hoc, hd, hv⟩)
      (.inr ⟨_, rfl, nC, by rw [eL]; exact PySem.TriplesOk_snoc _ _ _ _ ht, fun p cv hcv => ?_⟩) upd_same (Heap.get?_push_size _ rfl)
    rw [eL] at hcv
    exact among_app _ ht hcv
end
/-- the world behind it -/
theorem lam_gd {W : Wd} {F H H1 : Hp} {P c' : Addr} {q : Str} {ps : Array Value} (L : LamW W P q) (g : Gd W F H) (hP : H P = some (.tbl ps)) (ha : ∀ (pos : Pos) (cv : Value), codeAmong pos ps.toList = some cv → ∃ c, cv = .ref c ∧ F c = some (CodeO c q))
    (h : H1 = H ∨ ∃ more : Array Value, H1 = upd (upd H P (.tbl (ps ++ more))) c' (CodeO c' q) ∧ H c' = none ∧ TriplesOk (ps ++ more).toList ∧ ∀ (p : Pos) (cv : Value), codeAmong p (ps ++ more).toList = some cv → codeAmong p ps.toList = some cv ∨ cv = .ref c') :
    ∃ F1, Gd W F1 H1 ∧ Gr W F H F1 H1 := by
  rcases h with rfl | ⟨more, rfl, hc, ht, hm⟩
  · exact ⟨F, g, Gr.refl⟩
  · have fP : F P = none := g.mf P L.m
    have fc : F c' = none := g.fnone hc
    have nPc : P ≠ c' := fun z => by rw [z, hc] at hP; cases hP
    have fF : ∀ b o, F b = some o → upd F c' (CodeO c' q) b = some o := fun b o e => by
      rw [upd_ne (fun z => by rw [z, fc] at e; cases e)]
      exact e
    have mc : ∀ b, W.M b → b ≠ c' := fun b m z => g.mh b m (by rw [z]; exact hc)
    have hb : ∀ b o, H b = some o → b ≠ c' := fun b o e z => by rw [z, hc] at e; cases e
    refine ⟨upd F c' (CodeO c' q), ⟨fun b o e => ?_, fun b m => ?_, fun b m => ?_, ?_, fun b xs e => ?_⟩, ⟨fF, fun b e => ?_, fun b o m e => ?_, fun b e => ?_⟩⟩
    · by_cases z : b = c'
      · rw [z] at e ⊢
        rw [upd_same] at e ⊢
        exact e
      · rw [upd_ne z] at e ⊢
        rw [upd_ne (fun y => by rw [y, fP] at e; cases e)]
        exact g.sub b o e
    · rw [upd_ne (mc b m)]
      exact g.mf b m
    · rw [upd_ne (mc b m)]
      by_cases z : b = P
      · rw [z, upd_same]
        simp
      · rw [upd_ne z]
        exact g.mh b m
    · refine L.put F H _ _ (ps ++ more) g.j fF (fun b m z => ?_) ?_ ht fun p cv hcv => ?_
      · rw [upd_ne (mc b m), upd_ne z]
      · rw [upd_ne nPc, upd_same]
      · rcases hm p cv hcv with z | z
        · obtain ⟨c0, e1, e2⟩ := ha p cv z
          exact ⟨c0, e1, fF _ _ e2⟩
        · exact ⟨c', z, upd_same⟩
    · by_cases z : b = c'
      · rw [z, upd_same] at e
        exact nomatch e
      · rw [upd_ne z] at e ⊢
        by_cases y : b = P
        · rw [y, upd_same] at e
          cases e
        · rw [upd_ne y] at e
          exact g.tp b xs e
    · exact upd_ne (fun z => e (by rw [z]; exact hc))
    · rw [upd_ne (hb b o e), upd_ne (fun z => m (by rw [z]; exact L.m))]
      exact e
    · by_cases z : b = c'
      · rw [z, upd_same]
        simp
      · rw [upd_ne z]
        by_cases y : b = P
        · rw [y, upd_same]
          simp
        · rw [upd_ne y]
          exact e
/-! ### sorted(xs, key=lambda path: ( *path, 9)) -/
abbrev key9 (ns : List Int) : PyData := .tuple (ns.map PyData.int ++ [.int 9])
def tupsI : List PyData → Option (List (List Int))
  | [] => some []
  | .tuple ds :: r => match intsD ds, tupsI r with
    | some ns, some l => some (ns :: l)
    | _, _ => none
  | _ => none
def rSortK : RF := fun ds Q => match ds with
  | [.list es] => (match tupsI es with
    | some nss => (∀ ns ∈ nss, ns.length < 1000) ∧ ∀ out : List (List Int), out.Perm nss → out.Pairwise (fun a b => ¬ (b ++ [9] < a ++ [9])) → Q (out.map tupI)
    | none => False)
  | _ => False
theorem tups_v {K : PySem.W.Frag} {F : Hp} : ∀ {es : List PyData} {vs : List V} {nss : List (List Int)}, RpAll K F vs es → tupsI es = some nss → ∃ ts : List Addr, vs = ts.map V.ref ∧ Paired (fun t ns => F t = some (.tup (ns.map V.int))) ts nss
  | [], _, nss, h, e => by
    cases h
    cases e
    exact ⟨[], rfl, .nil⟩
  | d :: es, _, nss, h, e => by
    cases h with
    | cons h1 h2 =>
      unfold tupsI at e
      split at e
      · rename_i heq
        cases heq
      · rename_i ds r heq
        cases heq
        cases e1 : intsD ds with
        | none => rw [e1] at e; cases e
        | some ns =>
          cases e2 : tupsI es with
          | none => rw [e1, e2] at e; cases e
          | some l =>
            rw [e1, e2] at e
            cases e
            obtain ⟨ts, e3, e4⟩ := tups_v h2 e2
            cases h1 with
            | tup hs ha =>
              cases ints_v ha e1
              subst e3
              exact ⟨_ :: ts, rfl, .cons hs e4⟩
      · cases e
theorem le9_eq : dataLe false key9 = fun a b => !decide (b ++ [(9 : Int)] < a ++ [(9 : Int)]) := by
  funext a b
  show (!dataLt (key9 b) (key9 a)) = _
  congr 1
  show dataLt (.tuple (b.map PyData.int ++ [.int 9])) (.tuple (a.map PyData.int ++ [.int 9])) = _
  have e : ∀ l : List Int, l.map PyData.int ++ [PyData.int 9] = (l ++ [9]).map PyData.int := fun l => by rw [List.map_append]; rfl
  rw [e, e, dataLt_tuple]
  exact dataLt_ints _ _
theorem sort9 (l : List (List Int)) : (l.mergeSort (dataLe false key9)).Perm l ∧ (l.mergeSort (dataLe false key9)).Pairwise (fun a b => ¬ (b ++ [9] < a ++ [9])) := by
  refine ⟨List.mergeSort_perm _ _, ?_⟩
  rw [le9_eq]
  have h := List.pairwise_mergeSort (le := fun a b : List Int => !decide (b ++ [(9 : Int)] < a ++ [(9 : Int)])) (fun a b c h1 h2 => ?_) (fun a b => ?_) l
  · exact h.imp fun {a b} q => by simpa using q
  · simp only [Bool.not_eq_true', decide_eq_false_iff_not, List.not_lt] at h1 h2 ⊢
    exact List.le_trans h1 h2
  · simp only [Bool.or_eq_true, Bool.not_eq_true', decide_eq_false_iff_not, List.not_lt]
    exact List.le_total _ _
end Qd
set_option maxHeartbeats 2000000
namespace Qd
open PySem PySem.Spec PySem.Calls PyProof.Rows PySem.W L2
open LamX (CodeO TabB)
def wSortK (we : WE) : WP := fun ρ Q => we ρ fun d => rSortK [d] Q
theorem depth9 (ns : List Int) : (key9 ns).depth = 1 := by
  have e : ns.map PyData.int ++ [PyData.int 9] = (ns ++ [9]).map PyData.int := by rw [List.map_append]; rfl
  show PyData.depth (.tuple (ns.map PyData.int ++ [PyData.int 9])) = 1
  rw [e]
  unfold PyData.depth
  rw [depth_ints]
theorem alike9 (a b : List Int) : alike (key9 a) (key9 b) = true := by
  have e : ∀ l : List Int, l.map PyData.int ++ [PyData.int 9] = (l ++ [9]).map PyData.int := fun l => by rw [List.map_append]; rfl
  show alike (.tuple (a.map PyData.int ++ [PyData.int 9])) (.tuple (b.map PyData.int ++ [PyData.int 9])) = true
  rw [e, e]
  unfold alike
  exact alike_ints _ _
theorem out_refs {H : Hp} {out : List Value} {m : List (List Int)} (h : EachIs (KAt H) out m) : (∀ u ∈ out, ∃ a, u = Value.ref a) ∧ Paired (KAt H) out m := by
  induction h with
  | nil => exact ⟨fun u hu => (nomatch hu), .nil⟩
  | cons e t ih =>
    refine ⟨fun u hu => ?_, .cons e ih.2⟩
    rcases List.mem_cons.mp hu with z | hu
    · obtain ⟨a, e, _⟩ := e
      exact ⟨a, z.trans e⟩
    · exact ih.1 u hu
theorem each_kat {H : Hp} {ts : List Addr} {nss : List (List Int)} (h : Paired (fun t (ns : List Int) => H t = some (.tup (ns.map V.int))) ts nss) : EachIs (KAt H) (ts.map Value.ref) nss := by
  induction h with
  | nil => exact .nil
  | cons e t ih => exact .cons ⟨_, rfl, e⟩ ih
section
variable {W : Wd} {H0 : Hp} {X : Cx} {e : Expr} {we : WE} {pos p : Pos}
theorem df_sortK {P c : Addr} {params : Arguments} {scope : Scope} {lpos kpos p1 p2 p3 p4 : Pos} {j : Nat} (L : LamW W P (X.env.qual ++ "<lambda>")) (TB : TabB X.base X.mg c P) (hcode : X.env.code = .ref c) (hr : Room 2 X.A) (hcalm : X.calm = true) (hg : Gl X "sorted") (hm : X.mg "sorted" = none) (he : DE W X e we)
    (hbind : ∀ (v pm cv ctv : Value), bindArgs (PySem.W.kla_fn "<lambda>" (X.env.qual ++ "<lambda>") params (keyBody j p1 p2 p3 p4) scope [] pm cv ctv) ⟨[v], []⟩ = pure [(("path" : Str), v)])
    (hdef : defaultsOf params X.env = ([], []) := by rfl) (hk : scope.kind = .function := by rfl) (hco : scope.isCoroutine = false := by rfl) (hgen : scope.isGenerator = false := by rfl) (hloc : scope.names.lookup ("path" : Str) = some NameKind.local := by rfl) (hcell : ∀ x ∈ scope.names, x.2 ≠ .cell := by decide +kernel)
    (hfree : ∀ x ∈ scope.names, x.2 ≠ .free := by decide +kernel) (hclo : ∀ cells, cloFrom cells scope.names [] = [] := by intro _; rfl)
    (hse : starEach [e] X.env = (false, eval e X.env) :: starEach [] X.env := by rfl) :
    DF W X (.Call (.Name "sorted" p) [e] [⟨some "key", .Lambda params (keyBody j p1 p2 p3 p4) scope lpos, kpos⟩] pos) (wSortK we) := by
  refine ⟨fun pins s σ H Q I h => ?_⟩
  obtain ⟨F, ρ, H0, P0, g, ev, h, k⟩ := h
  refine wpAny_Call_Name_kw (ld_blt I hg hm PyProof.Rows.boot_sorted ?_ (by decide) (by decide))
  refine PyProof.Rows.callWith_kw (thn ((pa_cons he pa_nil hse).run pos pins s σ H (fun vs H1 => ∃ F1 d v, vs = [v] ∧ Gd W F1 H1 ∧ Gr W F H F1 H1 ∧ Rp X.K F1 v d ∧ rSortK [d] P0) I ⟨F, ρ, H0, _, g, ev, h, fun d q v F1 H1 g1 r1 rp => ⟨F1, d, v, rfl, g1, r1, rp, q⟩⟩) fun us s1 ⟨vs, H1, I1, rv, F1, d, v, evs, g1, r1, rp, q⟩ => ?_) ?_ ?_ ?_ ?_
  rotate_left
  · rw [hse]
    rfl
  · rw [hse]
    rfl
  · rfl
  · rfl
  subst evs
  unfold rSortK at q
  split at q
  · rename_i es heq
    cases heq
    cases rp with
    | lst hs ha =>
      rename_i a xs
      cases rv with
      | cons ra rr =>
        cases rr
        obtain ⟨ps, hP, ht, hcodes⟩ := L.tab F1 H1 g1.j
        have nk : (backToKw pos (keywordEach [⟨some "key", .Lambda params (keyBody j p1 p2 p3 p4) scope lpos, kpos⟩] X.env)).map (·.2) = [(do let v ← eval (.Lambda params (keyBody j p1 p2 p3 p4) scope lpos) X.env; standAt pos; pure v)] := rfl
        have nks : (backToKw pos (keywordEach [⟨some "key", .Lambda params (keyBody j p1 p2 p3 p4) scope lpos, kpos⟩] X.env)).filterMap (·.1) = [Str.ofString "key"] := rfl
        rw [nk, nks]
        refine wpAny_evalAll_cons (wpAny_bind (lam_new I1 TB hcode hP ht (fun po cv z => let ⟨c0, e1, e2⟩ := hcodes po cv z; ⟨c0, e1, g1.sub _ _ e2⟩) hdef (fun y hy z => absurd z (hfree y hy)) fun f c' pm ctv H2 s2 I2 hH2 hc2 hf2 => wpAny_bind (wpAny_standAt (wpAny_pure (wpAny_evalAll_nil ?_)))))
        obtain ⟨F2, g2, r2⟩ := lam_gd L g1 hP hcodes hH2
        cases (show _ = Value.ref a from ra)
        cases et : tupsI es with
        | none => rw [et] at q; exact q.elim
        | some nss =>
          rw [et] at q
          obtain ⟨q1, q2⟩ := q
          have hs2 : Rd H2 a (.lst xs) := rd_mono g2.sub (rd_mono r2.f hs)
          have ha2 : RpAll X.K F2 xs es := rpAll_mono r2.f _ _ ha
          obtain ⟨ts, rfl, hts⟩ := tups_v ha2 et
          have htsH : Paired (fun t (ns : List Int) => H2 t = some (.tup (ns.map V.int))) ts nss := Paired.mapP hts fun _ _ z => g2.sub _ _ z
          obtain ⟨its, rl, hl, hz⟩ := I2.list (.inl hs2)
          have ei := refs_at rl
          subst ei
          have hpl : nss.length = ts.length := (Paired.length hts).symm
          have hzl : nss.length ≤ sizeLine := by rw [hpl]; rw [List.length_map] at hz; exact hz
          have hun := hr.units
          have hin : Room 0 X.A.in1.in1 := hr.in1.in1
          refine PySem.W.sorted_key_data (b := false) (R := KAt H2) (bs := nss) key9 hl.isList (each_kat htsH) (AllAlike.of alike9) (Sortable.tuples fun ns => ?_) hzl (fun ns _ => by rw [depth9]; omega) (PyProof.Rows.ksk_s1 _ _) (fun _ => PyProof.Rows.ksk_l1 _ _) (fun x => PyProof.Rows.ksk_t1 f x) (fun v ns hR hn h' tk hk' => ?_) fun out c3 h' tk hk' hfr hD hlen hout => ?_
          · cases ns with
            | nil => exact ⟨.int 9, [], rfl⟩
            | cons x r => exact ⟨.int x, r.map PyData.int ++ [.int 9], rfl⟩
          · obtain ⟨t, rfl, hH⟩ := hR
            have I3 : Inv X pins σ H2 { s2 with heap := h', toks := tk } := I2.kept hk'
            obtain ⟨_, its2, r3, ht3⟩ := I3.hok _ _ hH
            obtain ⟨oc, vs', tq, e1, e2, e3⟩ := (show ObjOk X.prog X.w H2 h' c' (CodeO c' (X.env.qual ++ "<lambda>")) from I3.hok _ _ hc2).1
            have hi3 := intsAre_of r3
            have hl3 : its2.length = ns.length := by rw [← r3.length, List.length_map]
            refine lam_key (s := { s2 with heap := h', toks := tk }) (its := its2.toArray) (ns := ns) (by have := hin.dp; omega) (hk' _ _ (by rw [hf2, hclo])) hk hco hgen hloc hcell ⟨c', oc, vs', tq, rfl, e1, e2, e3⟩ I3.nolimit (hbind _ _ _ _) ht3 (by simpa using hi3) ?_
            have := q1 ns hn
            rw [List.size_toArray, hl3]
            exact Nat.le_trans (by omega : ns.length + 1 ≤ 1000) (by decide)
          · obtain ⟨hp, hw⟩ := sort9 nss
            obtain ⟨eo, pk⟩ := out_refs hout
            have fresh : H2 (s2.heap.objs.size + 1) = none := I2.hok.fresh (Nat.le_succ _)
            have hol : (out.map backV).length ≤ sizeLine := by rw [List.length_map, hlen]; exact hzl
            refine ⟨.ref (s2.heap.objs.size + 1), upd H2 (s2.heap.objs.size + 1) (.lst (out.map backV)), I2.laid (t' := tk) hk' (Nat.le_succ _) ⟨hol, out, c3, vals_back eo, hD⟩, rfl, ?_⟩
            have r02 := r1.trans r2
            exact k _ (q2 _ hp hw) _ _ F2 _ (g2.free (g2.fnone fresh) (g2.notM fresh)) (r02.trans (Gr.new fresh)) (r02.none_of fresh) upd_same (g2.fnone fresh) (rp_keys g2 pk)
  · exact q.elim
end
end Qd
set_option maxHeartbeats 2000000
namespace Qd
open PySem PySem.Spec PySem.Calls PyProof.Rows L2
/-! ### promises of defs that print: nothing is being printed around them -/
structure FnOkG (P : Program) (w : World) (K : PySem.W.Frag) (mg : Str → Option Value) (base : Heap) (CX : CXT) (k : Nat) (f : Addr) (fd : FuncData) (ps : List Str) (sp : Sp) : Prop where
  len : ∀ vs H Q E, sp vs H Q E → vs.length = ps.length
  run : ∀ (A : Around) (outer : List Env) (s : Shared) (H : Hp) (args : Args) (us : List Value) (vs : List V) (Q : VK) (E : XK), A.guards = some [] → Room k A → Env0 P w K mg base A outer s H → BindsTo s fd args (ps.zip us) → Vals vs us → sp vs H Q E →
    codeAny (model P w) A (.call (.ref f) args) (CR CX outer P w H s Q E) s
section
variable {P : Program} {w : World} {K : PySem.W.Frag} {mg : Str → Option Value} {base : Heap} {CX : CXT} {j k : Nat} {f : Addr} {fd : FuncData} {ps : List Str} {sp : Sp}
theorem FnOkG.mono (F : FnOkG P w K mg base CX j f fd ps sp) (h : j ≤ k) : FnOkG P w K mg base CX k f fd ps sp := ⟨F.len, fun A outer s H args us vs Q E hg hr => F.run A outer s H args us vs Q E hg (hr.mono h)⟩
/-- by its body -/
theorem fnG_of {name qual : Str} {params : Arguments} {body : List Stmt} {scope : Scope} {dV kV doc pm cdv ct oc : Value} {an od : Option Addr} {osl : Array (Option Value)} {N : List Str} (lk : K.lookup f = some ⟨oc, od, .func (PySem.W.fnOf name qual params body scope dV kV doc pm an cdv ct), osl⟩)
    (hcd : PySem.W.codeIn K cdv qual = true) (S : FnScope N ps scope) (len : ∀ vs H Q E, sp vs H Q E → vs.length = ps.length)
    (hb : ∀ (A : Around) (outer : List Env) (s : Shared) (H : Hp) (vs : List V) (Q : VK) (E : XK), A.guards = some [] → Room k (A.deeper (envOfC qual scope s.heap.objs.size f cdv)) → sp vs H Q E →
      ∃ t, PSs (cxOf CX P w K mg base N qual scope f cdv A outer s H E) body t ∧ t { nx := fun _ H' => Q .non H', rt := Q } (L2.start N vs) H) :
    FnOkG P w K mg base CX (k + 1) f (PySem.W.fnOf name qual params body scope dV kV doc pm an cdv ct) ps sp := by
  refine ⟨len, fun A outer s H args us vs Q E hg hr e0 hbi r hsp => ?_⟩
  exact LamX.run_ofS lk hcd S hr e0 hbi r (len _ _ _ _ hsp) fun hr' => hb A outer s H vs Q E hg hr' hsp
end
section
variable {X : Cx} {CX : CXT} {k : Nat} {f : Addr} {fd : FuncData} {ps : List Str} {ds : List Value} {dvs : List V} {sp : Sp} {E : XK} {x : Str} {p pos : Pos} {e : Expr} {es : List Expr} {t : TA}
theorem run_fnG {pins : List (Addr × Obj)} {σ : L2.St} {H : Hp} {s : Shared} {Q : VK} {us : List Value} {vs : List V} (F : FnOkG X.prog X.w X.K X.mg X.base CX k f fd ps sp) (hgu : X.A.guards = some []) (hr : Room k X.A) (hb : Binds X.K fd ps ds) (hd : Vals dvs ds) (hx : Passes CX X E)
    (I : Inv X pins σ H s) (r : Vals vs us) (h : sp (vs ++ dvs) H Q E) : wpAny (model X.prog X.w) X.A (call (.ref f) us) (EP X pins σ Q) X.xe s := by
  have r2 : Vals (vs ++ dvs) (us ++ ds) := r.append hd
  refine wpAny_call (codeAny_mono (F.run X.A X.stack s H ⟨us, []⟩ _ _ Q E hgu hr I.env0 (hb s us I.kIn (by rw [← r2.length]; exact F.len _ _ _ _ h)) r2 h) fun r s' hq => ?_)
  cases r with
  | error e => exact hx pins σ H s e s' I hq
  | ok fl =>
    cases fl with
    | ret u => exact I.after hq
    | next => exact False.elim hq
    | brk => exact False.elim hq
    | cont => exact False.elim hq
theorem pe_callG (F : FnOkG X.prog X.w X.K X.mg X.base CX k f fd ps sp) (hgu : X.A.guards = some []) (hr : Room k X.A) (hg : Gl X x) (hm : X.mg x = some (.ref f)) (hk : PySem.W.keepIn X.K (.ref f) = true) (hb : Binds X.K fd ps ds) (hd : Vals dvs ds) (hx : Passes CX X E)
    (ha : PA X (e :: es) t) (hdb : (x == ("__debug__" : Str)) = false := by decide) (he : starEach (e :: es) X.env = (false, eval e X.env) :: starEach es X.env := by rfl) (hpl : (backTo pos (starEach es X.env)).any (·.1) = false := by rfl) :
    PE X (.Call (.Name x p) (e :: es) [] pos) (tCall sp dvs E t) := by
  refine ⟨fun pins s σ H Q I h => wpAny_Call_Name_kw (ld_glob I hg hm ?_ hdb)⟩
  refine PySem.W.callWith_K (h₀ := X.base) I.ok.mod.kin hk (thn (ha.run pos pins s σ H _ I h) fun us s1 ⟨vs, H1, I1, r, q⟩ => ⟨I1.kIn, ?_⟩) he hpl
  exact run_fnG F hgu hr hb hd hx I1 r q
end
/-- such a def, called by its name -/
def CalG (P : Program) (w : World) (K : PySem.W.Frag) (mg : Str → Option Value) (base : Heap) (W : Wd) (x : Str) (k n : Nat) (sp : SpB) : Prop :=
  ∃ (f : Addr) (fd : FuncData) (ps : List Str), FnOkG P w K mg base CX0 k f fd ps (lSp K W n sp) ∧ mg x = some (.ref f) ∧ PySem.W.keepIn K (.ref f) = true ∧ Binds K fd ps []
theorem de_calG {W : Wd} {X : Cx} {e : Expr} {es : List Expr} {pos p : Pos} {x : Str} {k n : Nat} {sp : SpB} {w : WA} (C : CalG X.prog X.w X.K X.mg X.base W x k n sp) (hgu : X.A.guards = some []) (hr : Room k X.A) (hg : Gl X x)
    (ha : DA W X (e :: es) w) (hdb : (x == ("__debug__" : Str)) = false := by decide) (he : starEach (e :: es) X.env = (false, eval e X.env) :: starEach es X.env := by rfl) (hpl : (backTo pos (starEach es X.env)).any (·.1) = false := by rfl) :
    DE W X (.Call (.Name x p) (e :: es) [] pos) (wCall sp n w) := by
  obtain ⟨f, fd, ps, F, hm, hk, hb⟩ := C
  refine pe_weak (pe_callG F hgu hr hg hm hk hb .nil pass0 ha hdb he hpl) fun σ H Q h => ?_
  obtain ⟨F, ρ, H0, P, g, ev, h, kk⟩ := h
  refine ⟨F, ρ, H0, _, g, ev, h, fun bs q vs F1 H1 g1 r1 ps => ?_⟩
  show lSp X.K W n sp (vs ++ []) H1 Q E0
  rw [List.append_nil]
  exact ⟨F1, bs, P, q.1, g1, ps, q.2, kk.then r1⟩
theorem fn_dG {P : Program} {w : World} {K : PySem.W.Frag} {mg : Str → Option Value} {base : Heap} {x qual : Str} {params : Arguments} {body : List Stmt} {scope : Scope} {f : Addr} {fd : FuncData} {N ps : List Str} {k : Nat} {sp : SpB} {W : Wd} {wb : WS}
    (F : FunD K x qual params body scope [] [] f fd) (S : FnScope N ps scope)
    (hd : ∀ (cdv : Value) (A : Around) (outer : List Env) (s : Shared) (H : Hp) (E : XK), A.guards = some [] → Room k (A.deeper (envOfC qual scope s.heap.objs.size f cdv)) → DSs W H (cxOf CX0 P w K mg base N qual scope f cdv A outer s H E).nox body wb)
    (hw : ∀ bs Q, sp bs Q → wb { nx := fun _ => Q .none, rt := Q } (bs ++ List.replicate (N.length - bs.length) .no)) : FnOkG P w K mg base CX0 (k + 1) f fd ps (lSp K W ps.length sp) := by
  obtain ⟨oc, od, dV, kV, doc, pm, an, cdv, ct, osl, rfl, lk, hcd, _, _⟩ := F.ex
  refine fnG_of lk hcd S (fun vs H Q E h => ?_) (fun A outer s H vs Q E hg hr h => ?_)
  · obtain ⟨F', bs, P', hl, g, ps', h, k'⟩ := h
    rw [Paired.length ps']
    exact hl
  · obtain ⟨F', bs, P', hl, g, ps', h, k'⟩ := h
    refine ⟨_, (hd cdv A outer s H E hg hr).nox, F', F', _, _, g, Gr.refl, start_env ps', hw bs P' h, ⟨fun ρ q σ F1 H1 g1 r1 ev => k' .none q .non F1 H1 g1 r1 .non, fun _ q => q.elim, fun _ q => q.elim, fun d q v F1 H1 g1 r1 rp => k' d q v F1 H1 g1 r1 rp⟩⟩
/-- a def whose code object is known -/
structure FunDc (K : PySem.W.Frag) (x qual : Str) (params : Arguments) (body : List Stmt) (scope : Scope) (f : Addr) (fd : FuncData) (c : Addr) : Prop where
  ex : ∃ (oc : Value) (od : Option Addr) (dV kV doc pm : Value) (an : Option Addr) (ct : Value) (osl : Array (Option Value)), fd = PySem.W.fnOf x qual params body scope dV kV doc pm an (.ref c) ct ∧ K.lookup f = some ⟨oc, od, .func fd, osl⟩ ∧ PySem.W.codeIn K (.ref c) qual = true
  old : FunD K x qual params body scope [] [] f fd
theorem fn_dC {P : Program} {w : World} {K : PySem.W.Frag} {mg : Str → Option Value} {base : Heap} {x qual : Str} {params : Arguments} {body : List Stmt} {scope : Scope} {f c : Addr} {fd : FuncData} {N ps : List Str} {k : Nat} {sp : SpB} {W : Wd} {wb : WS}
    (F : FunDc K x qual params body scope f fd c) (S : FnScope N ps scope)
    (hd : ∀ (A : Around) (outer : List Env) (s : Shared) (H : Hp) (E : XK), Room k (A.deeper (envOfC qual scope s.heap.objs.size f (.ref c))) → DSs W H (cxOf CX0 P w K mg base N qual scope f (.ref c) A outer s H E).nox body wb)
    (hw : ∀ bs Q, sp bs Q → wb { nx := fun _ => Q .none, rt := Q } (bs ++ List.replicate (N.length - bs.length) .no)) : FnOk P w K mg base CX0 (k + 1) f fd ps (lSp K W ps.length sp) := by
  obtain ⟨oc, od, dV, kV, doc, pm, an, ct, osl, rfl, lk, hcd⟩ := F.ex
  refine fn_of lk hcd S (fun vs H Q E h => ?_) (fun A outer s H vs Q E hr h => ?_)
  · obtain ⟨F', bs, P', hl, g, ps', h, k'⟩ := h
    rw [Paired.length ps']
    exact hl
  · obtain ⟨F', bs, P', hl, g, ps', h, k'⟩ := h
    refine ⟨_, (hd A outer s H E hr).nox, F', F', _, _, g, Gr.refl, start_env ps', hw bs P' h, ⟨fun ρ q σ F1 H1 g1 r1 ev => k' .none q .non F1 H1 g1 r1 .non, fun _ q => q.elim, fun _ q => q.elim, fun d q v F1 H1 g1 r1 rp => k' d q v F1 H1 g1 r1 rp⟩⟩
/-! ### repr -/
def noDict : PyData → Bool
  | .dict _ => false
  | _ => true
def rReprD : RB := fun ds Q => match ds with
  | [d] => (d.showable = true ∧ d.hasDict = false ∧ d.depth ≤ 60 ∧ d.shown.length ≤ sizeLine) ∧ (∃ es, itemsD d = some es) ∧ Q (.str d.shown)
  | _ => False
section
variable {W : Wd} {X : Cx}
theorem cp_repr (hu : X.A.units + 64 < cLine) (hgu : X.A.guards = some []) : CallP W X (.builtin "repr") rReprD := by
  intro pins s σ H xs us Q I rv h
  obtain ⟨F, ds, P, g, ps, h, k⟩ := h
  unfold rReprD at h
  split at h
  · rename_i d
    obtain ⟨v, rfl, sh⟩ := paired1 ps
    obtain ⟨⟨h1, h2, h3, h4⟩, ⟨es, h5⟩, h6⟩ := h
    have dp := dpH g sh
    obtain ⟨u, rfl, ru⟩ := vals1 rv
    obtain ⟨as, rd⟩ := Dp.reads I d v u dp ru
    obtain ⟨a, xs, rfl, _, _⟩ := items_sq g sh h5
    cases ru
    exact repr_of_reads' rd h1 (fun z => by rw [h2] at z; cases z) hgu (by omega) (fun b o e => e) (fun h' u tk hk => ⟨.str d.shown, H, I.kept hk, ⟨u, rfl⟩, k.val g h6 (.str _)⟩) h4
  · exact h.elim
/-! == of texts -/
def rEqS : WO := fun x y Q => match x, y with
  | .str a, .str b => Q (.bool (decide (a = b)))
  | _, _ => False
def rNeS : WO := fun x y Q => match x, y with
  | .str a, .str b => Q (.bool (!decide (a = b)))
  | _, _ => False
theorem od_eqS : OpD W X (compareOp .Eq) rEqS := by
  intro pins s σ H x y v u Q I rx ry h
  obtain ⟨F, dx, dy, P, gd, px, py, h, k⟩ := h
  unfold rEqS at h
  cases dx with
  | str a =>
    cases dy with
    | str b =>
      cases px
      cases py
      exact op_eq pins s σ H _ _ v u Q I rx ry ⟨rfl, by rw [show decide (V.str a = V.str b) = decide (a = b) by simp]; exact k.val gd h (.bl _)⟩
    | _ => exact h.elim
  | _ => exact h.elim
theorem od_neS : OpD W X (compareOp .NotEq) rNeS := by
  intro pins s σ H x y v u Q I rx ry h
  obtain ⟨F, dx, dy, P, gd, px, py, h, k⟩ := h
  unfold rNeS at h
  cases dx with
  | str a =>
    cases dy with
    | str b =>
      cases px
      cases py
      exact op_ne pins s σ H _ _ v u Q I rx ry ⟨rfl, by rw [show decide (V.str a = V.str b) = decide (a = b) by simp]; exact k.val gd h (.bl _)⟩
    | _ => exact h.elim
  | _ => exact h.elim
abbrev rEqI : WO := rII (fun _ _ => True) fun i j => .bool (decide (i = j))
abbrev rNeI : WO := rII (fun _ _ => True) fun i j => .bool (!decide (i = j))
theorem od_eqI : OpD W X (compareOp .Eq) rEqI := by
  intro pins s σ H x y v u Q I rx ry h
  obtain ⟨F, dx, dy, P, gd, px, py, h, k⟩ := h
  obtain ⟨i, j, rfl, rfl, c, p⟩ := rII_of h
  cases px
  cases py
  exact op_eq pins s σ H _ _ v u Q I rx ry ⟨rfl, by rw [show decide (V.int i = V.int j) = decide (i = j) by simp]; exact k.val gd p (.bl _)⟩
theorem od_neI : OpD W X (compareOp .NotEq) rNeI := by
  intro pins s σ H x y v u Q I rx ry h
  obtain ⟨F, dx, dy, P, gd, px, py, h, k⟩ := h
  obtain ⟨i, j, rfl, rfl, c, p⟩ := rII_of h
  cases px
  cases py
  exact op_ne pins s σ H _ _ v u Q I rx ry ⟨rfl, by rw [show decide (V.int i = V.int j) = decide (i = j) by simp]; exact k.val gd p (.bl _)⟩
/-- an expression's value is let go -/
def wDrop (we : WE) : WS := fun E ρ => we ρ fun _ => E.nx ρ
theorem ds_expr {H0 : Hp} {e : Expr} {we : WE} {pos : Pos} (he : DE W X e we) (hs : swapsWith e none pos.line X.env = pure false := by rfl) : DS W H0 X (.Expr e pos) (wDrop we) := ps_weak (ps_expr he hs) fun D σ H h => by
  obtain ⟨F0, F, ρ, E, g, r, ev, h, im⟩ := h
  exact ⟨F, ρ, H0, _, g, ev, h, fun d q v F1 H1 g1 r1 rp => im.nx _ q σ F1 H1 g1 (r.trans r1) (ev.grow r1)⟩
end
end Qd
set_option maxHeartbeats 4000000
namespace Qp
open PySem PySem.Spec PyProof.Rows L2 Qd
abbrev FnP (K : PySem.W.Frag) (x : Str) (st : Stmt) (f : Addr) (fd : FuncData) : Prop := FunD K x x (defArgs st) (defBody st) (defScope st) [] [] f fd
/-- what the module's names hold -/
structure Tx (w : World) (K : PySem.W.Frag) (mg : Str → Option Value) where
  aL : Addr
  aD : Addr
  g_LEAVES : mg "LEAVES" = some (.ref aL)
  t_LEAVES : ∀ H, SqT K H aL ([("thing" : Str), "none"].map V.str)
  g_DOUBLE : mg "DOUBLE" = some (.ref aD)
  t_DOUBLE : ∀ H, SqT K H aD ([("beside" : Str), "below"].map V.str)
  l_LENGTHS : LensOk K w mg
  n_isinstance : mg "isinstance" = none
  n_int : mg "int" = none
  n_bool : mg "bool" = none
  n_tuple : mg "tuple" = none
  n_str : mg "str" = none
  n_abs : mg "abs" = none
  n_all : mg "all" = none
  n_any : mg "any" = none
  n_zip : mg "zip" = none
  n_len : mg "len" = none
  n_range : mg "range" = none
  n_sorted : mg "sorted" = none
  n_list : mg "list" = none
  n_enumerate : mg "enumerate" = none
  n_max : mg "max" = none
  n_min : mg "min" = none
  n_sum : mg "sum" = none
  n_dict : mg "dict" = none
  n_repr : mg "repr" = none
  i_MOST_THINGS : ∃ t, mg "MOST_THINGS" = some (.int 10 t)
  i_MOST_TIES : ∃ t, mg "MOST_TIES" = some (.int 45 t)
  i_MOST_WORTH : ∃ t, mg "MOST_WORTH" = some (.int 1000 t)
  i_MOST_WEIGHT : ∃ t, mg "MOST_WEIGHT" = some (.int 1000 t)
  i_MOST_WORDS : ∃ t, mg "MOST_WORDS" = some (.int 20 t)
  i_MOST_DEEP : ∃ t, mg "MOST_DEEP" = some (.int 8 t)
  i_MOST_MOVE : ∃ t, mg "MOST_MOVE" = some (.int 2000 t)
  i_MOST_TIMES : ∃ t, mg "MOST_TIMES" = some (.int 1000 t)
  s_THING : ∃ t, mg "THING" = some (.str "thing" t)
  s_NONE : ∃ t, mg "NONE" = some (.str "none" t)
  s_BESIDE : ∃ t, mg "BESIDE" = some (.str "beside" t)
  s_BELOW : ∃ t, mg "BELOW" = some (.str "below" t)
  s_ROW : ∃ t, mg "ROW" = some (.str "row" t)
  s_TURNED : ∃ t, mg "TURNED" = some (.str "turned" t)
  s_MOVED : ∃ t, mg "MOVED" = some (.str "moved" t)
  s_TIMES : ∃ t, mg "TIMES" = some (.str "times" t)
  s_TIED : ∃ t, mg "TIED" = some (.str "tied" t)
  s_ONLY : ∃ t, mg "ONLY" = some (.str "only" t)
variable {P : Program} {w : World} {K : PySem.W.Frag} {mg : Str → Option Value} {base : Heap} {W : Wd}
end Qp
set_option maxHeartbeats 2000000
namespace Qd
open PySem PySem.Spec PySem.Calls PyProof.Rows L2
open LamX (TabB)
/-! ### the end: the law, called with nothing being printed, one table of code objects -/
section
variable {P : Program} {w : World} {K : PySem.W.Frag} {mg mb : Str → Option Value} {k : Nat} {fa a c tb : Addr} {fd : FuncData} {x : Str} {sp : Sp} {s : Shared} {vs : List Value} {ns : List Int}
/-- what is tracked at first: the table, the script -/
def hFirst (K : PySem.W.Frag) (tb a : Addr) (vs : List Value) (ns : List Int) : Hp := fun b =>
  if b = tb then some (.tbl #[]) else if b = a then (match K.lookup a with
    | some _ => none
    | none => some (.frz { cls := .type "list", data := .seq vs.toArray } (.lst (ns.map V.int)))) else none
theorem hFirst_tb : hFirst K tb a vs ns tb = some (.tbl #[]) := if_pos rfl
theorem hFirst_some {b : Addr} {o : HO} (h : hFirst K tb a vs ns b = some o) : (b = tb ∧ o = .tbl #[]) ∨ (b = a ∧ K.lookup a = none ∧ o = .frz { cls := .type "list", data := .seq vs.toArray } (.lst (ns.map V.int))) := by
  unfold hFirst at h
  by_cases h1 : b = tb
  · rw [if_pos h1] at h
    exact .inl ⟨h1, (Option.some.inj h).symm⟩
  · rw [if_neg h1] at h
    by_cases h2 : b = a
    · rw [if_pos h2] at h
      cases e : K.lookup a with
      | some o => rw [e] at h; cases h
      | none =>
        rw [e] at h
        exact .inr ⟨h2, rfl, (Option.some.inj h).symm⟩
    · rw [if_neg h2] at h
      cases h
theorem law_callG (KX : K.In s.heap) (hns : s.heap.Ns mainGlobals mg) (hb : s.heap.Ns builtinsNs mb) (hbb : ∀ x : Str, x ≠ "__name__" → mb x = bootBuiltins x) (hlim : s.heap.NoLimit) (hg : s.gens = #[])
    (hT : s.heap.get? tb = some { cls := .none, data := .fields #[] }) (nT : K.lookup tb = none) (C : PySem.W.CodeHd s.heap c tb)
    (hbm : ∃ (bm : Addr) (ob : Obj), mg "__builtins__" = some (.ref bm) ∧ bm ≠ builtinsNs ∧ s.heap.get? bm = some ob ∧ ob.cls = .type "module" ∧ ob.dict = some builtinsNs ∧ ob.data = .plain)
    (ha : s.heap.get? a = some { cls := .type "list", data := .seq vs.toArray }) (hi : IntsAre vs ns) (hl : ns.length ≤ sizeLine) (hr : Room k callerA)
    (F : ∀ base : Heap, K.In base → base.Ns mainGlobals mg → TabB base mg c tb → FnOkG P w K mg base CX0 k fa fd [x] sp) (hbind : ∀ (s : Shared) (u : Value), BindsTo s fd ⟨[u], []⟩ [(x, u)])
    (hsp : ∀ H : Hp, (∀ b o, H b = some o → (b = tb ∧ o = .tbl #[]) ∨ ∃ q, o = .frz q (.lst (ns.map V.int))) → H tb = some (.tbl #[]) → SqL K H a (ns.map V.int) → sp [.ref a] H (fun v _ => v = .bl true) fun _ _ _ => False) :
    codeAny (model P w) callerA (.call (.ref fa) ⟨[.ref a], []⟩) (fun r s' => r = .ok (.ret (.bool true)) ∧ OldK s.heap s'.heap ∧ s'.os = s.os ∧ AllBare s'.gens) s := by
  have rv := vals_ints hi
  have aT : a ≠ tb := fun z => by
    rw [z, hT] at ha
    exact nomatch congrArg Obj.data (Option.some.inj ha)
  generalize hH : hFirst K tb a vs ns = H
  have some_of : ∀ {b : Addr} {o : HO}, H b = some o → (b = tb ∧ o = .tbl #[]) ∨ (b = a ∧ K.lookup a = none ∧ o = .frz { cls := .type "list", data := .seq vs.toArray } (.lst (ns.map V.int))) := fun {b o} e => by
    rw [← hH] at e
    exact hFirst_some e
  have hTb : H tb = some (.tbl #[]) := by rw [← hH]; exact hFirst_tb
  have hok : HOk P w H s.heap := fun b o e => by
    rcases some_of e with ⟨rfl, rfl⟩ | ⟨rfl, _, rfl⟩
    · exact hT
    · exact ⟨ha, by rw [List.length_map]; exact hl, vs, 0, rv, ha⟩
  have hS : SqL K H a (ns.map V.int) := by
    cases e : K.lookup a with
    | some o =>
      have q := KX a o e
      rw [ha] at q
      cases q
      exact .inr ⟨_, vs.toArray, _, e, rfl, rfl, rfl, by rw [List.size_toArray, hi.length]; exact hl, by simpa using rv⟩
    | none =>
      refine .inl (.inr ⟨{ cls := .type "list", data := .seq vs.toArray }, ?_⟩)
      rw [← hH]
      unfold hFirst
      rw [if_neg aT, if_pos rfl, e]
  -- what is not tracked lies in the base
  have base_of : ∀ {b : Addr} {o : Obj}, s.heap.get? b = some o → H b = none → (hidT s.heap H).get? b = some o := fun e n => hidT_get e n
  have noD : ∀ {b : Addr} {o : Obj}, s.heap.get? b = some o → (∀ vs n, o.data ≠ .seq vs n) → o.data ≠ .fields #[] → H b = none := fun {b o} e h1 h2 => by
    cases q : H b with
    | none => rfl
    | some u =>
      rcases some_of q with ⟨z, _⟩ | ⟨z, _⟩
      · rw [z, hT] at e
        cases e
        exact (h2 rfl).elim
      · rw [z, ha] at e
        cases e
        exact (h1 _ _ rfl).elim
  have nsK : ∀ {b : Addr} {m : Str → Option Value}, s.heap.Ns b m → (hidT s.heap H).Ns b m := fun {b m} ⟨o, es, ep, e, d, r⟩ => ⟨o, es, ep, base_of e (noD e (fun _ _ z => by rw [d] at z; cases z) fun z => by rw [d] at z; cases z), d, r⟩
  have hKb : K.In (hidT s.heap H) := fun b o e => base_of (KX b o e) (by
    cases q : H b with
    | none => rfl
    | some u =>
      rcases some_of q with ⟨z, _⟩ | ⟨z, nk, _⟩
      · rw [z, nT] at e
        cases e
      · rw [z, nk] at e
        cases e)
  have hM : L2.Mod K mg (hidT s.heap H) := ⟨hKb, nsK hns, ⟨mb, nsK hb, hbb⟩, let ⟨mc, h1, h2⟩ := hlim; ⟨mc, nsK h1, h2⟩⟩
  have TB : TabB (hidT s.heap H) mg c tb := by
    refine ⟨?_, ?_, fun z => ?_⟩
    · obtain ⟨o, us, file, tf, flags, tg, inF, text, tt, e1, r1, r2, r3, rr⟩ := C
      refine ⟨o, us, file, tf, flags, tg, inF, text, tt, base_of e1 (noD e1 (fun _ _ z => by rw [r2] at z; cases z) fun z => ?_), r1, r2, r3, rr⟩
      rw [r2] at z
      cases z
      simp at r3
    · obtain ⟨bm, ob, b1, b2, b3, b4, b5, b6⟩ := hbm
      refine ⟨bm, ob, b1, b2, fun q => ?_, fun q => ?_, base_of b3 (noD b3 (fun _ _ z => by rw [b6] at z; cases z) fun z => by rw [b6] at z; cases z), b4, b5, b6⟩
      · obtain ⟨o, es, ep, e, hd, _⟩ := hns
        rw [q, e] at b3
        cases b3
        rw [hd] at b6
        cases b6
      · rw [q, hT] at b3
        cases b3
        cases b6
    · obtain ⟨o, es, ep, e, hd, _⟩ := hns
      rw [z, hT] at e
      cases e
      cases hd
  have e0 : Env0 P w K mg (hidT s.heap H) callerA [] s H := ⟨rfl, hM, fun b o e => of_hidT e, Nat.le_of_eq (hidT_size _ _), trivial, fun b hb => absurd (show b ∈ ([] : List Addr) from hb) (by simp), hok, .of_eq hg⟩
  have hspH := hsp H (fun b o e => (some_of e).imp id fun z => ⟨_, z.2.2⟩) hTb hS
  refine codeAny_mono ((F _ hKb (nsK hns) TB).run callerA [] s H ⟨[.ref a], []⟩ [.ref a] [.ref a] _ _ rfl hr e0 (hbind s (.ref a)) (.cons rfl .nil) hspH) fun r s' h => ?_
  cases r with
  | error e => exact (show False from h).elim
  | ok fl =>
    cases fl with
    | next => exact False.elim h
    | brk => exact False.elim h
    | cont => exact False.elim h
    | ret u =>
      obtain ⟨v, H', os, bare, un, hok', r', q⟩ := h
      cases (show v = .bl true from q)
      obtain rfl : u = Value.bool true := r'
      obtain ⟨more, hm⟩ := un.tbls tb #[] hTb
      have hm' := hok' tb _ hm
      have key : ∀ b o, b ≠ tb → s.heap.get? b = some o → s'.heap.get? b = some o := fun b o nb e => by
        cases q : H b with
        | none => exact un.keep b o e q (fun z => absurd (show b ∈ ([] : List Addr) from z) (by simp)) (by simp)
        | some u =>
          rcases some_of q with ⟨z, _⟩ | ⟨z, _, rfl⟩
          · exact absurd z nb
          · obtain ⟨e2, _⟩ := hok' b _ (un.frzs b _ _ q)
            obtain ⟨e1, _⟩ := hok b _ q
            rw [e] at e1
            cases e1
            exact e2
      refine ⟨rfl, ⟨fun b o e => ?_, fun b o e => ?_⟩, os, bare⟩
      · by_cases hb : b = tb
        · rw [hb] at e ⊢
          rw [hT] at e
          cases e
          exact .inr (.inl ⟨(C.tab hT).isCodeTable, rfl, #[], more, rfl, hm'⟩)
        · exact .inl (key b o hb e)
      · by_cases hb : b = tb
        · rw [hb]
          exact ⟨_, hm'⟩
        · exact ⟨o, key b o hb e⟩
end
theorem walk_ofG {l : PySem.W.OpenLaw} {n k : Nat} {q : Program} {loose : List Str} {XP : (Str → Option Value) → Heap → Prop} {YP : World → Heap → Prop} {d : DefRec} {x : Str}
    (hn : l.most = some n) (hn2 : n ≤ sizeLine) (hdf : d.params.defaults = []) (hr : Room k callerA)
    (F : ∀ (w : World) (mg : Str → Option Value) (fa : Addr) (h : Heap), YP w h → h.Ns mainGlobals mg → mg d.name = some (.ref fa) → ∃ K : PySem.W.Frag, K.In h ∧ ∃ (fd : FuncData) (c tb : Addr) (sp : Sp),
      h.get? tb = some { cls := .none, data := .fields #[] } ∧ K.lookup tb = none ∧ PySem.W.CodeHd h c tb ∧ (∀ (s : Shared) (u : Value), BindsTo s fd ⟨[u], []⟩ [(x, u)]) ∧
      (∀ (H : Hp) (a : Addr) (ns : List Int), ns.length ≤ n → (∀ z ∈ ns, Builtin.Int.intBits z ≤ 1048576) → (∀ b o, H b = some o → (b = tb ∧ o = .tbl #[]) ∨ ∃ q, o = .frz q (.lst (ns.map V.int))) → H tb = some (.tbl #[]) → SqL K H a (ns.map V.int) → sp [.ref a] H (fun v _ => v = .bl true) fun _ _ _ => False) ∧
      ∀ base : Heap, K.In base → base.Ns mainGlobals mg → TabB base mg c tb → FnOkG l.prog w K mg base CX0 k fa fd [x] sp) :
    PySem.W.WalkO q loose XP YP l.row.toRowW d [] (fun f vs => PySem.call f vs) := by
  refine Att.attach_callB hn hdf fun w s₀ s₁ mg mb fa o pm cd doc a vs ns G Y ho hd hcd hmg hobj hints hlen hbits hg => ?_
  obtain ⟨K, KX, fd, c, tb, sp, hT, nT, C, hb, hsp, hF⟩ := F w mg fa _ Y G.T.g hmg
  exact law_callG KX G.T.g G.T.b G.T.builtins G.T.nolimit hg hT nT C G.T.bmain hobj hints (Nat.le_trans hlen hn2) hr hF hb fun H h0 h1 h2 => hsp H a ns hlen hbits h0 h1 h2
end Qd
set_option maxHeartbeats 4000000
namespace Qp
open PySem PySem.Spec PyProof.Rows L2 Qd
open LamX (CodeO)
variable {P : Program} {w : World} {K : PySem.W.Frag} {mg : Str → Option Value} {base : Heap}
abbrev N__law_mixed : List Str := ["_law_cell", "_law_k"]
abbrev s__law_mixed : Stmt := top 72
theorem sc__law_mixed : FnScope N__law_mixed ["_law_cell", "_law_k"] (defScope s__law_mixed) := ⟨rfl, rfl, rfl, by decide +kernel, rfl, by decide +kernel, by decide +kernel⟩
abbrev N__law_draw : List Str := ["_law_state", "_law_many", "_law_at", "_law_place", "_law_left", "_law_number"]
abbrev s__law_draw : Stmt := top 74
theorem sc__law_draw : FnScope N__law_draw ["_law_state", "_law_many"] (defScope s__law_draw) := ⟨rfl, rfl, rfl, by decide +kernel, rfl, by decide +kernel, by decide +kernel⟩
/-! ### _law_mixed -/
def spMixed : Sp := fun vs H Q _ => ∃ c k : Int, vs = [.int c, .int k] ∧ 0 ≤ k ∧ k < 2 ^ 62 ∧ ∀ r : Int, 0 ≤ r → r < 2147483629 → Q (.int r) H
theorem ok_mixed (T : Tx w K mg) {f : Addr} {fd : FuncData} (F : FnP K "_law_mixed" s__law_mixed f fd) : FnOk P w K mg base CX0 1 f fd ["_law_cell", "_law_k"] spMixed := by
  have sc := sc__law_mixed
  refine F.ok sc (fun vs H Q E h => ?_) (fun cdv A outer s H vs Q E hr h => ?_)
  · obtain ⟨c, k, rfl, _⟩ := h
    rfl
  apply Exists.intro
  apply And.intro
  · apply PSs.nox
    exact pss_cons (ps_set (i := 0) sc.nd rfl (Or.inl rfl) (pe_op op_modN (pe_callTy call_int1 (by rfl) T.n_int PyProof.Rows.boot_int (pa_cons (pv 0) pa_nil)) pe_int))
      (pss_one (ps_ret (pe_op op_modN (pe_op op_mul (pe_op op_modN (pe_op op_add (pe_op op_add (pe_op op_mul (pv 0) (pe_op op_add pe_int (pe_op op_mul (pe_op op_mul pe_int (pv 1)) (pv 1)))) (pe_op op_mul pe_int (pv 1))) pe_int) pe_int) pe_int) pe_int)))
  · obtain ⟨c, k, rfl, h0, h1, q⟩ := h
    have m1 : 0 ≤ c.fmod 2147483647 ∧ c.fmod 2147483647 < 2147483647 := ⟨Int.fmod_nonneg_of_pos _ (by decide), Int.fmod_lt_of_pos _ (by decide)⟩
    refine ⟨_, rfl, .inl ⟨_, rfl, ?_⟩⟩
    refine ⟨_, _, rfl, rfl, (by show (_ : Int) ≠ 0; decide), ?_⟩
    refine ⟨_, rfl, ?_⟩
    refine ⟨_, rfl, ?_⟩
    refine ⟨_, _, rfl, rfl, .inl ⟨by decide, by decide⟩, ?_⟩
    refine ⟨_, rfl, _, _, rfl, rfl, .inr ⟨by omega, by omega⟩, ?_⟩
    refine ⟨_, _, rfl, rfl, ?_⟩
    refine ⟨_, _, rfl, rfl, .inl ⟨by omega, by omega⟩, ?_⟩
    refine ⟨_, rfl, _, _, rfl, rfl, .inl ⟨by decide, by decide⟩, ?_⟩
    refine ⟨_, _, rfl, rfl, ?_⟩
    refine ⟨_, _, rfl, rfl, ?_⟩
    refine ⟨_, _, rfl, rfl, (by show (_ : Int) ≠ 0; decide), ?_⟩
    refine ⟨_, _, rfl, rfl, .inr ⟨by decide, by decide⟩, ?_⟩
    refine ⟨_, _, rfl, rfl, (by show (_ : Int) ≠ 0; decide), ?_⟩
    exact q _ (Int.fmod_nonneg_of_pos _ (by decide)) (Int.fmod_lt_of_pos _ (by decide))
/-! ### the world of the draws -/
def tabJ (tb : Addr) (q : Str) (F H : Hp) : Prop := ∃ ps : Array Value, H tb = some (.tbl ps) ∧ TriplesOk ps.toList ∧ ∀ (pos : Pos) (cv : Value), codeAmong pos ps.toList = some cv → ∃ c, cv = .ref c ∧ F c = some (CodeO c q)
def stKv (cl lf : Addr) (a : Int) : List (Key × V) := [(.inr "cells", .ref cl), (.inr "lefts", .ref lf), (.inr "at", .int a), (.inr "room", .int 0)]
def stJ (d cl lf : Addr) (n : Int) (H : Hp) : Prop := cl ≠ lf ∧ ∃ (a : Int) (cs ls : List Int), H d = some (.dK (stKv cl lf a)) ∧ (0 ≤ a ∧ a ≤ n) ∧ H cl = some (.lst (cs.map V.int)) ∧ H lf = some (.lst (ls.map V.int)) ∧ cs ≠ [] ∧ ls.length = cs.length ∧ ∀ l ∈ ls, 0 ≤ l
theorem tabJ_up {tb : Addr} {q : Str} {F H F' H' : Hp} (j : tabJ tb q F H) (f : ∀ b o, F b = some o → F' b = some o) (h : H' tb = H tb) : tabJ tb q F' H' := by
  obtain ⟨ps, h1, h2, h3⟩ := j
  exact ⟨ps, h.trans h1, h2, fun p cv e => let ⟨c, e1, e2⟩ := h3 p cv e; ⟨c, e1, f _ _ e2⟩⟩
/-- a budget: the counter is at most n -/
def Wn (tb d cl lf : Addr) (q : Str) (n : Int) : Wd where
  M := fun b => b = tb ∨ b = d ∨ b = cl ∨ b = lf
  J := fun F H => tabJ tb q F H ∧ stJ d cl lf n H
  st := d
  stab := fun F H F' H' j f h => by
    obtain ⟨j1, hne, a, cs, ls, e1, e2, e3, e4, e5⟩ := j
    exact ⟨tabJ_up j1 f (h tb (.inl rfl)), hne, a, cs, ls, (h d (.inr (.inl rfl))).trans e1, e2, (h cl (.inr (.inr (.inl rfl)))).trans e3, (h lf (.inr (.inr (.inr rfl)))).trans e4, e5⟩
theorem wn_lam (tb d cl lf : Addr) (q : Str) (n : Int) : LamW (Wn tb d cl lf q n) tb q := by
  refine ⟨.inl rfl, fun F H j => j.1, fun F H F' H' ps j f h e1 e2 e3 => ⟨⟨ps, e1, e2, e3⟩, ?_⟩⟩
  obtain ⟨⟨ps0, t0, _⟩, hne, a, cs, ls, d1, d2, d3, d4, d5⟩ := j
  have n1 : d ≠ tb := fun z => by rw [z, t0] at d1; cases d1
  have n2 : cl ≠ tb := fun z => by rw [z, t0] at d3; cases d3
  have n3 : lf ≠ tb := fun z => by rw [z, t0] at d4; cases d4
  exact ⟨hne, a, cs, ls, (h d (.inr (.inl rfl)) n1).trans d1, d2, (h cl (.inr (.inr (.inl rfl))) n2).trans d3, (h lf (.inr (.inr (.inr rfl))) n3).trans d4, d5⟩
section
variable {tb d cl lf : Addr} {q : Str}
theorem gd_le {F H : Hp} {m n : Int} (g : Gd (Wn tb d cl lf q m) F H) (h : m ≤ n) : Gd (Wn tb d cl lf q n) F H := by
  obtain ⟨g1, g2, g3, ⟨j1, hne, a, cs, ls, e1, e2, e3⟩, g5⟩ := g
  exact ⟨g1, g2, g3, ⟨j1, hne, a, cs, ls, e1, ⟨e2.1, Int.le_trans e2.2 h⟩, e3⟩, g5⟩
/-- promises with a budget: the counter ahead, the counter behind -/
abbrev SpN := Int → List Bd → (Int → PyData → Prop) → Prop
def KDn (K : PySem.W.Frag) (tb d cl lf : Addr) (q : Str) (F H : Hp) (P : Int → PyData → Prop) (Q : VK) : Prop :=
  ∀ m e, P m e → ∀ v F' H', Gd (Wn tb d cl lf q m) F' H' → Gr (Wn tb d cl lf q 0) F H F' H' → Rp K F' v e → Q v H'
def lSpN (K : PySem.W.Frag) (tb d cl lf : Addr) (q : Str) (np : Nat) (sp : SpN) : Sp := fun vs H Q _ => ∃ n F bs P, bs.length = np ∧ Gd (Wn tb d cl lf q n) F H ∧ Paired (ArgOk K (Wn tb d cl lf q 0) F) vs bs ∧ sp n bs P ∧ KDn K tb d cl lf q F H P Q
def sp_draw : SpN := fun n bs P => ∃ many : Int, bs = [.st, .val (.int many)] ∧ 0 < many ∧ many < 1000 ∧ n < 2 ^ 61 ∧ ∀ r : Int, 0 ≤ r → r < many → P (n + 1) (.int r)
end
theorem ixN_in {n : Nat} {i : Int} (h0 : 0 ≤ i) (h1 : i < n) : ixN n i = some i.toNat := by
  unfold ixN
  rw [if_pos h0, if_pos h1]
theorem atI_map {ns : List Int} {i : Int} (h0 : 0 ≤ i) (h1 : i.toNat < ns.length) : atI (ns.map V.int) i = some (.int ns[i.toNat]) := by
  unfold atI
  rw [ixN_in h0 (by rw [List.length_map]; omega)]
  show (ns.map V.int)[i.toNat]? = _
  rw [List.getElem?_map, List.getElem?_eq_getElem h1]
  rfl
/-! ### _law_draw -/
theorem ok_draw (T : Tx w K mg) {f fM : Addr} {fd fdM : FuncData} (F : FnP K "_law_draw" s__law_draw f fd) (FM : FnP K "_law_mixed" s__law_mixed fM fdM) (gM : mg "_law_mixed" = some (.ref fM)) {tb d cl lf : Addr} {q : Str} : FnOk P w K mg base CX0 2 f fd ["_law_state", "_law_many"] (lSpN K tb d cl lf q 2 sp_draw) := by
  have sc := sc__law_draw
  have GM : FnOk P w K mg base CX0 1 fM fdM ["_law_cell", "_law_k"] spMixed := ok_mixed T FM
  have bM : Binds K fdM ["_law_cell", "_law_k"] [] := FM.bindsN fun _ _ _ _ _ _ us hl => match us, hl with | [_, _], _ => rfl
  refine F.ok sc (fun vs H Q E h => ?_) (fun cdv A outer s H vs Q E hr h => ?_)
  · obtain ⟨n, F', bs, P', hl, _, ps, _⟩ := h
    rw [Paired.length ps]
    exact hl
  have hu1 := hu_of hr
  apply Exists.intro
  apply And.intro
  · apply PSs.nox
    exact pss_cons (ps_set (i := 2) sc.nd rfl (Or.inl rfl) (pe_dget hu1 (pv 0) pe_str (fun _ _ => rfl)))
      (pss_cons (ps_dput hu1 (pv 0) pe_str (pe_op op_add (pv 2) pe_int) (by rfl))
      (pss_cons (ps_set (i := 3) sc.nd rfl (Or.inl rfl) (pe_op op_modN (pe_callTy call_int1 (by rfl) T.n_int PyProof.Rows.boot_int (pa_cons (pv 2) pa_nil)) (pe_callB call_len (by rfl) T.n_len PySem.boot_len (pa_cons (pe_dget hu1 (pv 0) pe_str (fun _ _ => rfl)) pa_nil))))
      (pss_cons (ps_set (i := 4) sc.nd rfl (Or.inl rfl) (pe_ix ix_list (pe_dget hu1 (pv 0) pe_str (fun _ _ => rfl)) (pv 3) (fun _ _ => rfl)))
      (pss_cons (ps_if (pt_cmpR op_gt (pv 4) pe_int (nomark _))
        (pss_cons (ps_asg (pe_op op_fdivN (pv 4) (pv 1)) (pg_sub (pe_dget hu1 (pv 0) pe_str (fun _ _ => rfl)) (pv 3) set_list))
          (pss_one (ps_ret (pe_op op_modN (pe_callTy call_int1 (by rfl) T.n_int PyProof.Rows.boot_int (pa_cons (pv 4) pa_nil)) (pv 1))))) pss_nil)
      (pss_cons (ps_set (i := 5) sc.nd rfl (Or.inl rfl) (pe_call GM (hr.mono (by decide)) (by rfl) gM FM.kp bM .nil pass0 (pa_cons (pe_call GM (hr.mono (by decide)) (by rfl) gM FM.kp bM .nil pass0 (pa_cons (pe_ix ix_list (pe_dget hu1 (pv 0) pe_str (fun _ _ => rfl)) (pv 3) (fun _ _ => rfl)) (pa_cons (pv 2) pa_nil))) (pa_cons (pe_op op_add pe_int (pv 2)) pa_nil))))
      (pss_one (ps_ret (pe_op op_modN (pe_op op_fdivN (pe_callTy call_int1 (by rfl) T.n_int PyProof.Rows.boot_int (pa_cons (pe_op op_add (pe_op op_mul (pv 5) pe_int) (pe_call GM (hr.mono (by decide)) (by rfl) gM FM.kp bM .nil pass0 (pa_cons (pv 5) (pa_cons (pe_op op_add pe_int (pv 2)) pa_nil)))) pa_nil)) pe_int) (pv 1)))))))))
  · obtain ⟨n, F', bs, P', hl, g, ps, ⟨many, rfl, m0, m1, hn, hP⟩, kd⟩ := h
    obtain ⟨v0, v1, rfl, r0, r1⟩ := paired2 ps
    cases (show v0 = .ref d from r0)
    cases r1
    obtain ⟨jt, hne, a, cs, ls, e1, ⟨a0, a1⟩, e3, e4, e5, e6, e7⟩ := g.j
    have ncl : cl ≠ d := fun z => by rw [z, e1] at e3; cases e3
    have nlf : lf ≠ d := fun z => by rw [z, e1] at e4; cases e4
    obtain ⟨pst, ht, _⟩ := id jt
    have ntd : tb ≠ d := fun z => by rw [z, e1] at ht; cases ht
    have ntl : tb ≠ lf := fun z => by rw [z, e4] at ht; cases ht
    have c1 : upd H d (.dK (stKv cl lf (a + 1))) cl = some (.lst (cs.map V.int)) := (upd_ne ncl).trans e3
    have l1 : upd H d (.dK (stKv cl lf (a + 1))) lf = some (.lst (ls.map V.int)) := (upd_ne nlf).trans e4
    have hcs : 0 < cs.length := List.length_pos_iff.mpr e5
    have hmod : 0 ≤ a.fmod (cs.length : Int) ∧ a.fmod (cs.length : Int) < cs.length := ⟨Int.fmod_nonneg_of_pos _ (by omega), Int.fmod_lt_of_pos _ (by omega)⟩
    generalize hpl : a.fmod (cs.length : Int) = pl at hmod
    have hpc : pl.toNat < cs.length := by omega
    have hpl2 : pl.toNat < ls.length := by omega
    have atc : atI (cs.map V.int) pl = some (.int cs[pl.toNat]) := atI_map hmod.1 hpc
    have ixl : ixN (ls.map V.int).length pl = some pl.toNat := ixN_in hmod.1 (by rw [List.length_map]; omega)
    have atl : atI (ls.map V.int) pl = some (.int ls[pl.toNat]) := atI_map hmod.1 hpl2
    have hlf : 0 ≤ ls[pl.toNat] := e7 _ (List.getElem_mem hpl2)
    -- the worlds behind it
    have gd2 : ∀ ls' : List Int, ls'.length = ls.length → (∀ l ∈ ls', 0 ≤ l) → Gd (Wn tb d cl lf q (n + 1)) F' (upd (upd H d (.dK (stKv cl lf (a + 1)))) lf (.lst (ls'.map V.int))) := fun ls' hl' hp' => by
      refine ⟨fun b o e => ?_, g.mf, fun b m => ?_, ⟨tabJ_up jt (fun _ _ z => z) (by rw [upd_ne ntl, upd_ne ntd]), hne, a + 1, cs, ls', ?_, ⟨by omega, by omega⟩, ?_, upd_same, e5, hl'.trans e6, hp'⟩, fun b xs e => ?_⟩
      · have n1 : b ≠ lf := fun z => by rw [z, g.mf lf (.inr (.inr (.inr rfl)))] at e; cases e
        have n2 : b ≠ d := fun z => by rw [z, g.mf d (.inr (.inl rfl))] at e; cases e
        rw [upd_ne n1, upd_ne n2]
        exact g.sub b o e
      · by_cases n1 : b = lf
        · rw [n1, upd_same]; simp
        · rw [upd_ne n1]
          by_cases n2 : b = d
          · rw [n2, upd_same]; simp
          · rw [upd_ne n2]
            exact g.mh b m
      · rw [upd_ne (fun z => nlf z.symm), upd_same]
      · rw [upd_ne hne]
        exact c1
      · have n1 : b ≠ lf := fun z => by rw [z, upd_same] at e; cases e
        rw [upd_ne n1] at e
        have n2 : b ≠ d := fun z => by rw [z, upd_same] at e; cases e
        rw [upd_ne n2] at e
        exact g.tp b xs e
    have gr2 : ∀ o, Gr (Wn tb d cl lf q 0) F' H F' (upd (upd H d (.dK (stKv cl lf (a + 1)))) lf o) := fun o => by
      refine ⟨fun _ _ z => z, fun _ _ => rfl, fun b u m e => ?_, fun b e => ?_⟩
      · rw [upd_ne (fun z => m (.inr (.inr (.inr z)))), upd_ne (fun z => m (.inr (.inl z)))]
        exact e
      · by_cases n1 : b = lf
        · rw [n1, upd_same]; simp
        · rw [upd_ne n1]
          by_cases n2 : b = d
          · rw [n2, upd_same]; simp
          · rw [upd_ne n2]
            exact e
    -- the same heap, told with a change at lf that changes nothing
    have same : upd (upd H d (.dK (stKv cl lf (a + 1)))) lf (.lst (ls.map V.int)) = upd H d (.dK (stKv cl lf (a + 1))) := by
      funext b
      by_cases n1 : b = lf
      · rw [n1, upd_same]; exact l1.symm
      · rw [upd_ne n1]
    have gd1 := gd2 ls rfl e7
    have gr1 := gr2 (.lst (ls.map V.int))
    rw [same] at gd1 gr1
    refine ⟨_, rfl, d, .int a, rfl, (DGet.k (k := .inr "at") e1 : _), ?_⟩
    refine ⟨_, rfl, _, _, rfl, rfl, ?_⟩
    refine ⟨_, rfl, d, upd H d (.dK (stKv cl lf (a + 1))), rfl, (DPut.k (k := .inr "at") e1 (by show 4 < sizeLine; decide) : _), ?_⟩
    refine ⟨_, rfl, .inl ⟨_, rfl, ?_⟩⟩
    refine ⟨_, rfl, d, .ref cl, rfl, (DGet.k (k := .inr "cells") upd_same : _), ?_⟩
    refine ⟨_, cs.length, rfl, .inl ⟨cs.map V.int, .inl (.inl c1), by rw [List.length_map]⟩, ?_⟩
    refine ⟨_, _, rfl, rfl, by show (_ : Int) ≠ 0; omega, ?_⟩
    subst hpl
    refine ⟨_, rfl, d, .ref lf, rfl, (DGet.k (k := .inr "lefts") upd_same : _), ?_⟩
    refine ⟨_, rfl, lf, ls.map V.int, _, _, rfl, rfl, .inl (.inl l1), atl, ?_⟩
    refine ⟨_, rfl, _, _, rfl, rfl, ?_⟩
    by_cases hz : (0 : Int) < ls[(a.fmod (cs.length : Int)).toNat]
    · refine ⟨true, congrArg V.bl (decide_eq_true hz), ?_⟩
      refine ⟨_, rfl, _, rfl, _, _, rfl, rfl, ⟨by omega, by omega⟩, ?_⟩
      refine ⟨_, rfl, d, .ref lf, rfl, (DGet.k (k := .inr "lefts") upd_same : _), ?_⟩
      refine ⟨_, rfl, lf, ls.map V.int, _, _, rfl, rfl, l1, ixl, ?_⟩
      refine ⟨_, rfl, .inl ⟨_, rfl, ?_⟩⟩
      refine ⟨_, rfl, _, _, rfl, rfl, by show (_ : Int) ≠ 0; omega, ?_⟩
      have em : (ls.map V.int).set (a.fmod (cs.length : Int)).toNat (.int (ls[(a.fmod (cs.length : Int)).toNat].fdiv many)) = (ls.set (a.fmod (cs.length : Int)).toNat (ls[(a.fmod (cs.length : Int)).toNat].fdiv many)).map V.int := by rw [List.map_set]
      rw [em]
      refine kd _ _ (hP _ (Int.fmod_nonneg_of_pos _ m0) (Int.fmod_lt_of_pos _ m0)) _ F' _ (gd2 _ (by rw [List.length_set]) fun l hl => ?_) (gr2 _) (.int _)
      rcases List.mem_or_eq_of_mem_set hl with z | z
      · exact e7 l z
      · rw [z]
        exact Int.fdiv_nonneg hlf (by omega)
    · refine ⟨false, congrArg V.bl (decide_eq_false hz), ?_⟩
      refine ⟨_, rfl, d, .ref cl, rfl, (DGet.k (k := .inr "cells") upd_same : _), ?_⟩
      refine ⟨_, rfl, cl, cs.map V.int, _, _, rfl, rfl, .inl (.inl c1), atc, ?_⟩
      refine ⟨_, rfl, ?_⟩
      refine ⟨_, _, rfl, by omega, by omega, fun r1 p1 p2 => ?_⟩
      refine ⟨_, rfl, _, _, rfl, rfl, ?_⟩
      refine ⟨_, _, rfl, by omega, by omega, fun r2 p3 p4 => ?_⟩
      refine ⟨_, rfl, ?_⟩
      refine ⟨_, _, rfl, rfl, .inr ⟨by decide, by decide⟩, ?_⟩
      refine ⟨_, rfl, _, rfl, _, _, rfl, rfl, ?_⟩
      refine ⟨_, _, rfl, by omega, by omega, fun r3 p5 p6 => ?_⟩
      refine ⟨_, _, rfl, rfl, ?_⟩
      refine .inl ⟨_, rfl, ?_⟩
      refine ⟨_, _, rfl, rfl, ⟨by decide, by decide⟩, ?_⟩
      refine ⟨_, rfl, _, _, rfl, rfl, by show (_ : Int) ≠ 0; omega, ?_⟩
      exact kd _ _ (hP _ (Int.fmod_nonneg_of_pos _ m0) (Int.fmod_lt_of_pos _ m0)) _ F' _ gd1 gr1 (.int _)
end Qp
set_option maxHeartbeats 4000000
namespace Qp
open PySem PySem.Spec PyProof.Rows L2 Qd
variable {P : Program} {w : World} {K : PySem.W.Frag} {mg : Str → Option Value} {base : Heap}
abbrev N__law_begin : List Str := ["_law_script", "_law_cells", "_law_cell"]
abbrev s__law_begin : Stmt := top 73
theorem sc__law_begin : FnScope N__law_begin ["_law_script"] (defScope s__law_begin) := ⟨rfl, rfl, rfl, by decide +kernel, rfl, by decide +kernel, by decide +kernel⟩
/-! ### _law_begin -/
def spBegin (K : PySem.W.Frag) : Sp := fun vs H Q _ => ∃ (a : Addr) (ns : List Int), vs = [.ref a] ∧ SqL K H a (ns.map V.int) ∧ ns.length ≤ 1000 ∧ ∀ (d cl lf : Addr) (H' : Hp), (∀ b o, H b = some o → H' b = some o) → H d = none → H cl = none → H lf = none → (∀ b xs, H' b = some (.tup xs) → H b = some (.tup xs)) → stJ d cl lf 0 H' → Q (.ref d) H'
theorem dp_ints {K : PySem.W.Frag} {H : Hp} : ∀ ns : List Int, DpAll K H (ns.map V.int) (ns.map PyData.int)
  | [] => .nil
  | n :: ns => .cons (.int n) (dp_ints ns)
theorem lay_ints : ∀ ns : List Int, PyData.canLayAll0 (ns.map PyData.int) = true
  | [] => by unfold PyData.canLayAll0; rfl
  | n :: ns => by
    rw [List.map_cons]
    unfold PyData.canLayAll0
    rw [lay_ints ns]
    unfold PyData.canLay0
    rfl
theorem shaped_ints (ns : List Int) : SeqAt.shaped (.list (ns.map PyData.int)) = true := by
  unfold SeqAt.shaped
  have h1 : PyData.canLay0 (.list (ns.map PyData.int)) = true := by unfold PyData.canLay0; exact lay_ints ns
  have h2 : PyData.depth (.list (ns.map PyData.int)) = 1 := by unfold PyData.depth; rw [PySem.W.depth_ints]
  rw [h1, h2]
  rfl
def tBeginTail (K : PySem.W.Frag) : TS := tRet (tDisp [(tC (.str "cells"), tVar 1), (tC (.str "lefts"), tLc (fun σ H R => tVar 1 σ H fun x H1 => ∃ a, x = .ref a ∧ ((∃ xs, SqL K H1 a xs) ∧ R (Itl K a) H1 ∨ (∃ xs, SqT K H1 a xs) ∧ R (Itt K a) H1)) (gName 2) tYes
  (tIf (tTest (tOp (rI0 fun i j => .bl (decide (j ≤ i))) (tVar 2) (tOp (rI CPow fun i j => .int (i ^ j.toNat)) (tC (.int 10)) (tC (.int 18))))) (tVar 2) (tC (.int 0))) [2]), (tC (.str "at"), tC (.int 0)), (tC (.str "room"), tC (.int 0))])
theorem begin_tail {D : Ends} {H H1 : Hp} {cl : Addr} {cs : List Int} {σ : L2.St} (h01 : ∀ b o, H b = some o → H1 b = some o) (hc : H cl = none) (c1 : H1 cl = some (.lst (cs.map V.int))) (hne : cs ≠ []) (hl : cs.length ≤ 1000) (ht : ∀ b xs, H1 b = some (.tup xs) → H b = some (.tup xs))
    (q : ∀ (d cl lf : Addr) (H' : Hp), (∀ b o, H b = some o → H' b = some o) → H d = none → H cl = none → H lf = none → (∀ b xs, H' b = some (.tup xs) → H b = some (.tup xs)) → stJ d cl lf 0 H' → D.rt (.ref d) H') (hσ : σ[1]? = some (some (.ref cl))) (hσ3 : σ.length = 3) : tBeginTail K D σ H1 := by
  have none_up : ∀ {b : Addr}, H1 b = none → H b = none := fun {b} e => by
    cases z : H b with
    | none => rfl
    | some o => rw [h01 b o z] at e; cases e
  intro d hd
  have ncd : cl ≠ d := fun z => by rw [z, hd] at c1; cases c1
  have c2 : upd H1 d (.dK []) cl = some (.lst (cs.map V.int)) := (upd_ne ncd).trans c1
  refine ⟨_, hσ, ?_⟩
  refine ⟨_, hσ, cl, rfl, .inl ⟨⟨_, .inl (.inl c2)⟩, fun lf hlf => ?_⟩⟩
  have nld : lf ≠ d := fun z => by rw [z, upd_same] at hlf; cases hlf
  have hlf1 : H1 lf = none := by rw [upd_ne nld] at hlf; exact hlf
  have ncl : cl ≠ lf := fun z => by rw [z, hlf1] at c1; cases c1
  refine lc_list (xs := cs.map V.int) (fun i H3 => ∃ ls : List Int, ls.length = i ∧ (∀ l ∈ ls, 0 ≤ l) ∧ H3 = upd (upd H1 d (.dK [])) lf (.lst (ls.map V.int))) ⟨[], rfl, (fun _ z => nomatch z), rfl⟩ (fun i H3 _ ⟨ls, _, _, e⟩ => .inl (.inl (by rw [e, upd_ne ncl]; exact c2))) (fun i x H3 hx ⟨ls, e1, e2, e3⟩ => ?_) fun H3 ⟨ls, e1, e2, e3⟩ => ?_
  · rw [List.getElem?_map] at hx
    cases ez : cs[i]? with
    | none => rw [ez] at hx; cases hx
    | some z =>
      rw [ez] at hx
      cases hx
      have hi : i < cs.length := (List.getElem?_eq_some_iff.mp ez).1
      have h2 : ((wipe σ [2]).set 2 (some (V.int z)))[2]? = some (some (.int z)) := by
        rw [List.getElem?_set_self (by rw [wipe_length, hσ3]; decide)]
      refine ⟨wipe_set [2] _ (by simp) |>.trans (wipe_wipe σ [2]), ?_⟩
      refine ⟨_, h2, ?_⟩
      refine ⟨_, _, rfl, rfl, ⟨by decide, by decide, by decide⟩, ?_⟩
      refine ⟨_, _, rfl, rfl, ?_⟩
      have put : ∀ y : Int, 0 ≤ y → ∃ acc, H3 lf = some (.lst acc) ∧ acc.length < sizeLine ∧ ∃ ls' : List Int, ls'.length = i + 1 ∧ (∀ l ∈ ls', 0 ≤ l) ∧ upd H3 lf (.lst (acc ++ [V.int y])) = upd (upd H1 d (.dK [])) lf (.lst (ls'.map V.int)) := fun y hy => by
        refine ⟨ls.map V.int, by rw [e3, upd_same], by rw [List.length_map]; exact Nat.lt_of_lt_of_le (by omega : ls.length < 1001) (by decide), ls ++ [y], by simp [e1], fun l hl => ?_, by rw [e3, upd_upd, List.map_append]; rfl⟩
        rcases List.mem_append.mp hl with z | z
        · exact e2 l z
        · rw [List.mem_singleton.mp z]; exact hy
      by_cases hz : (10 : Int) ^ (18 : Int).toNat ≤ z
      · refine ⟨true, congrArg V.bl (decide_eq_true hz), ?_⟩
        exact ⟨_, h2, put z (Int.le_trans (by decide) hz)⟩
      · refine ⟨false, congrArg V.bl (decide_eq_false hz), ?_⟩
        exact put 0 (Int.le_refl 0)
  · rw [List.length_map] at e1
    subst e3
    have dd : upd (upd H1 d (.dK [])) lf (.lst (ls.map V.int)) d = some (.dK []) := by rw [upd_ne (fun z => nld z.symm), upd_same]
    refine ⟨dd, [(.inr "cells", .ref cl), (.inr "lefts", .ref lf), (.inr "at", .int 0), (.inr "room", .int 0)], rfl, (by show 4 ≤ 15; decide), ?_⟩
    refine q d cl lf _ (fun b o e => ?_) (none_up hd) hc (none_up hlf1) (fun b xs e => ?_) ⟨ncl, 0, cs, ls, ?_, ⟨Int.le_refl 0, Int.le_refl 0⟩, ?_, ?_, hne, e1, e2⟩
    · have nb : b ≠ d := fun z => by rw [z] at e; rw [none_up hd] at e; cases e
      have nb2 : b ≠ lf := fun z => by rw [z] at e; rw [none_up hlf1] at e; cases e
      rw [upd_ne nb, upd_ne nb2, upd_ne nb]
      exact h01 b o e
    · have nb : b ≠ d := fun z => by rw [z, upd_same] at e; cases e
      rw [upd_ne nb] at e
      have nb2 : b ≠ lf := fun z => by rw [z, upd_same] at e; cases e
      rw [upd_ne nb2, upd_ne nb] at e
      exact ht b xs e
    · rw [upd_same]
      rfl
    · rw [upd_ne ncd, upd_ne ncl]
      exact c2
    · rw [upd_ne nld, upd_same]
theorem ok_begin (T : Tx w K mg) {f : Addr} {fd : FuncData} (F : FnP K "_law_begin" s__law_begin f fd) : FnOk P w K mg base CX0 1 f fd ["_law_script"] (spBegin K) := by
  have sc := sc__law_begin
  refine F.ok sc (fun vs H Q E h => ?_) (fun cdv A outer s H vs Q E hr h => ?_)
  · obtain ⟨a, ns, rfl, _⟩ := h
    rfl
  have hu64 := hr.units
  apply Exists.intro
  apply And.intro
  · apply PSs.nox
    exact pss_cons (ps_set (i := 1) sc.nd rfl (Or.inl rfl) (pe_ifExp (pt_cmpR (op_neD hu64) (pv 0) (pe_lst pa_nil) (nomark _)) (pe_callTy call_list_of (by rfl) T.n_list PyProof.Rows.boot_list (pa_cons (pv 0) pa_nil)) (pe_lst (pa_cons pe_int pa_nil))))
      (pss_one (ps_ret (pe_disp (pps_cons pe_str (pv 1) (pps_cons pe_str (pe_lc (own := [("_law_cell", 2)]) rfl sc.nd (pi_seq (pv 1)) (blkOk_by (sc := defScope s__law_begin) (own := [("_law_cell", 2)]) (N := N__law_begin) (by decide +kernel))
        (fun _ _ _ _ _ => pg_name (i := 2) sc.nd rfl (Or.inl rfl)) (fun _ _ _ _ _ => pts_nil) (fun _ _ _ _ _ => pe_ifExp (pt_cmpR op_ge (pv 2) (pe_op op_pow pe_int pe_int) (nomark _)) (pv 2) pe_int))
        (pps_cons pe_str pe_int (pps_cons pe_str pe_int pps_nil)))) (by rfl) (by rfl) (by simp) (by decide))))
  · obtain ⟨a, ns, rfl, hS, hlen, q⟩ := h
    have ht0 : ∀ (p : Addr) (o : HO) (H1 : Hp), (∀ xs, o ≠ .tup xs) → (∀ b xs, H1 b = some (.tup xs) → H b = some (.tup xs)) → ∀ b xs, upd H1 p o b = some (.tup xs) → H b = some (.tup xs) := fun p o H1 ho h b xs e => by
      have nb : b ≠ p := fun z => by rw [z, upd_same] at e; exact ho xs (Option.some.inj e)
      rw [upd_ne nb] at e
      exact h b xs e
    have up0 : ∀ (p : Addr) (o : HO) (H1 : Hp), H p = none → (∀ b o, H b = some o → H1 b = some o) → ∀ b u, H b = some u → upd H1 p o b = some u := fun p o H1 hp h b u e => by
      rw [upd_ne (fun z => by rw [z, hp] at e; cases e)]
      exact h b u e
    have tail : ∀ (H1 : Hp) (cl : Addr) (cs : List Int), (∀ b o, H b = some o → H1 b = some o) → H cl = none → H1 cl = some (.lst (cs.map V.int)) → cs ≠ [] → cs.length ≤ 1000 → (∀ b xs, H1 b = some (.tup xs) → H b = some (.tup xs)) → tBeginTail K { nx := fun _ H' => Q .non H', rt := Q } ((L2.start N__law_begin [.ref a]).set 1 (some (.ref cl))) H1 :=
      fun H1 cl cs x1 x2 x3 x4 x5 x6 => begin_tail x1 x2 x3 x4 x5 x6 q rfl rfl
    refine ⟨_, rfl, ⟨by decide, fun p hp => ?_⟩⟩
    have dS : Dp K (upd H p (.lst [])) (.ref a) (.list (ns.map PyData.int)) := by
      refine .lst ?_ (dp_ints ns)
      rcases hS with z | z
      · refine .inl ?_
        rcases z with z | ⟨o, z⟩
        · exact .inl (up0 p _ H hp (fun _ _ y => y) _ _ z)
        · exact .inr ⟨o, up0 p _ H hp (fun _ _ y => y) _ _ z⟩
      · exact .inr z
    refine ⟨_, _, dS, .lst (.inl (.inl upd_same)) .nil, shaped_ints ns, shaped_ints [], ?_⟩
    cases ns with
    | nil =>
      refine ⟨false, rfl, by decide, fun l hl => ?_⟩
      have hl0 : H l = none := by
        cases z : H l with
        | none => rfl
        | some o => rw [up0 p _ H hp (fun _ _ y => y) _ _ z] at hl; cases hl
      exact tail _ l [0] (up0 l _ _ hl0 (up0 p _ H hp fun _ _ y => y)) hl0 upd_same (by simp) (by decide) (ht0 l _ _ (fun _ z => nomatch z) (ht0 p _ H (fun _ z => nomatch z) fun _ _ y => y))
    | cons n ns =>
      refine ⟨true, rfl, _, rfl, a, (n :: ns).map V.int, rfl, .inl ?_, fun l hl => ?_⟩
      · rcases hS with z | z
        · refine .inl ?_
          rcases z with z | ⟨o, z⟩
          · exact .inl (up0 p _ H hp (fun _ _ y => y) _ _ z)
          · exact .inr ⟨o, up0 p _ H hp (fun _ _ y => y) _ _ z⟩
        · exact .inr z
      · have hl0 : H l = none := by
          cases z : H l with
          | none => rfl
          | some o => rw [up0 p _ H hp (fun _ _ y => y) _ _ z] at hl; cases hl
        exact tail _ l (n :: ns) (up0 l _ _ hl0 (up0 p _ H hp fun _ _ y => y)) hl0 upd_same (by simp) hlen (ht0 l _ _ (fun _ z => nomatch z) (ht0 p _ H (fun _ z => nomatch z) fun _ _ y => y))
end Qp
set_option maxHeartbeats 2000000
namespace Qp
open PySem PySem.Spec PyProof.Rows L2 Qd
/-! ### the rules with a budget -/
structure StP where
  tb : Addr
  d : Addr
  cl : Addr
  lf : Addr
  q : Str
abbrev Wp (p : StP) (n : Int) : Wd := Wn p.tb p.d p.cl p.lf p.q n
abbrev WEn := Int → En → (Int → PyData → Prop) → Prop
abbrev WTn := Int → En → (Int → Bool → Prop) → Prop
abbrev WPn := Int → En → (Int → List PyData → Prop) → Prop
abbrev WAn := Int → En → (Int → List Bd → Prop) → Prop
structure EndN where
  nx : Int → En → Prop
  rt : Int → PyData → Prop
  bk : Int → En → Prop := fun _ _ => False
  ct : Int → En → Prop := fun _ _ => False
abbrev WSn := EndN → Int → En → Prop
theorem gr_c {p : StP} {m n : Int} {F H F' H' : Hp} (g : Gr (Wp p m) F H F' H') : Gr (Wp p n) F H F' H' := ⟨g.f, g.n, g.h, g.k⟩
theorem env_c {K : PySem.W.Frag} {p : StP} {m n : Int} {H0 F H : Hp} {σ : L2.St} {ρ : En} (e : EnvOk K (Wp p m) H0 F H σ ρ) : EnvOk K (Wp p n) H0 F H σ ρ := by
  refine ⟨e.len, fun i => ?_, e.uniq⟩
  have q := e.slot i
  cases z : ρ.getD i .no <;> rw [z] at q <;> exact q
section
variable {X : Cx}
theorem pe_ex {ι : Type} {e : Expr} {t : ι → TE} (h : ∀ i, PE X e (t i)) : PE X e (fun σ H Q => ∃ i, t i σ H Q) := ⟨fun pins s σ H Q I ⟨i, q⟩ => (h i).run pins s σ H Q I q⟩
theorem pt_ex {ι : Type} {e : Expr} {t : ι → TT} (h : ∀ i, PT X e (t i)) : PT X e (fun σ H Q => ∃ i, t i σ H Q) := ⟨fun pins s σ H Q I ⟨i, q⟩ => (h i).run pins s σ H Q I q⟩
theorem ps_ex {ι : Type} {e : Stmt} {t : ι → TS} (h : ∀ i, PS X e (t i)) : PS X e (fun D σ H => ∃ i, t i D σ H) := ⟨fun pins s σ H D I ⟨i, q⟩ => (h i).run pins s σ H D I q⟩
theorem pss_ex {ι : Type} {e : List Stmt} {t : ι → TS} (h : ∀ i, PSs X e (t i)) : PSs X e (fun D σ H => ∃ i, t i D σ H) := ⟨fun pins s σ H D I ⟨i, q⟩ => (h i).run pins s σ H D I q⟩
end
section
variable (K : PySem.W.Frag) (p : StP)
def KDb (F H : Hp) (P : Int → PyData → Prop) (Q : VK) : Prop := ∀ m e, P m e → ∀ v F' H', Gd (Wp p m) F' H' → Gr (Wp p 0) F H F' H' → Rp K F' v e → Q v H'
def bE (w : WEn) : TE := fun σ H Q => ∃ n F ρ H0 P, Gd (Wp p n) F H ∧ EnvOk K (Wp p 0) H0 F H σ ρ ∧ w n ρ P ∧ KDb K p F H P Q
def bT (w : WTn) : TT := fun σ H Q => ∃ n F ρ H0 P, Gd (Wp p n) F H ∧ EnvOk K (Wp p 0) H0 F H σ ρ ∧ w n ρ P ∧ ∀ m b, P m b → ∀ F' H', Gd (Wp p m) F' H' → Gr (Wp p 0) F H F' H' → Q b H'
def bAd (w : WPn) : TA := fun σ H Q => ∃ n F ρ H0 P, Gd (Wp p n) F H ∧ EnvOk K (Wp p 0) H0 F H σ ρ ∧ w n ρ P ∧ ∀ m ds, P m ds → ∀ vs F' H', Gd (Wp p m) F' H' → Gr (Wp p 0) F H F' H' → RpAll K F' vs ds → Q vs H'
def bA (w : WAn) : TA := fun σ H Q => ∃ n F ρ H0 P, Gd (Wp p n) F H ∧ EnvOk K (Wp p 0) H0 F H σ ρ ∧ w n ρ P ∧ ∀ m bs, P m bs → ∀ vs F' H', Gd (Wp p m) F' H' → Gr (Wp p 0) F H F' H' → Paired (ArgOk K (Wp p 0) F') vs bs → Q vs H'
structure ImpN (H0 F0 : Hp) (E : EndN) (D : Ends) : Prop where
  nx : ∀ n ρ, E.nx n ρ → ∀ σ F H, Gd (Wp p n) F H → Gr (Wp p 0) F0 H0 F H → EnvOk K (Wp p 0) H0 F H σ ρ → D.nx σ H
  bk : ∀ n ρ, E.bk n ρ → ∀ σ F H, Gd (Wp p n) F H → Gr (Wp p 0) F0 H0 F H → EnvOk K (Wp p 0) H0 F H σ ρ → D.bk σ H
  ct : ∀ n ρ, E.ct n ρ → ∀ σ F H, Gd (Wp p n) F H → Gr (Wp p 0) F0 H0 F H → EnvOk K (Wp p 0) H0 F H σ ρ → D.ct σ H
  rt : ∀ n d, E.rt n d → ∀ v F H, Gd (Wp p n) F H → Gr (Wp p 0) F0 H0 F H → Rp K F v d → D.rt v H
def bS (H0 : Hp) (w : WSn) : TS := fun D σ H => ∃ n F0 F ρ E, Gd (Wp p n) F H ∧ Gr (Wp p 0) F0 H0 F H ∧ EnvOk K (Wp p 0) H0 F H σ ρ ∧ w E n ρ ∧ ImpN K p H0 F0 E D
end
abbrev BE (p : StP) (X : Cx) (e : Expr) (w : WEn) : Prop := PE X e (bE X.K p w)
abbrev BT (p : StP) (X : Cx) (e : Expr) (w : WTn) : Prop := PT X e (bT X.K p w)
abbrev BW (p : StP) (X : Cx) (e : Expr) (w : WTn) : Prop := PW X e (bT X.K p w)
abbrev BAd (p : StP) (X : Cx) (es : List Expr) (w : WPn) : Prop := PA X es (bAd X.K p w)
abbrev BA (p : StP) (X : Cx) (es : List Expr) (w : WAn) : Prop := PA X es (bA X.K p w)
abbrev BS (p : StP) (H0 : Hp) (X : Cx) (st : Stmt) (w : WSn) : Prop := PS X st (bS X.K p H0 w)
abbrev BSs (p : StP) (H0 : Hp) (X : Cx) (st : List Stmt) (w : WSn) : Prop := PSs X st (bS X.K p H0 w)
section
variable {p : StP} {H0 : Hp} {X : Cx} {a b c e : Expr} {es : List Expr} {st : Stmt} {sts sts' : List Stmt} {wa wb : WEn} {wx wy : WTn} {wp : WPn} {wA : WAn} {pos pn : Pos} {x : Str}
theorem KDb.then {K : PySem.W.Frag} {F H F1 H1 : Hp} {P : Int → PyData → Prop} {Q : VK} (k : KDb K p F H P Q) (g : Gr (Wp p 0) F H F1 H1) : KDb K p F1 H1 P Q := fun m d q v F' H' gd gr dp => k m d q v F' H' gd (g.trans gr) dp
theorem KDb.kd {K : PySem.W.Frag} {F H : Hp} {P : Int → PyData → Prop} {Q : VK} {n : Int} (k : KDb K p F H P Q) : KD K (Wp p n) F H (P n) Q := fun d q v F' H' gd gr dp => k n d q v F' H' gd (gr_c gr) dp
theorem KDb.val {K : PySem.W.Frag} {F H : Hp} {P : Int → PyData → Prop} {Q : VK} {n : Int} {d : PyData} {v : V} (k : KDb K p F H P Q) (g : Gd (Wp p n) F H) (q : P n d) (dp : Rp K F v d) : Q v H := k n d q v F H g Gr.refl dp
/-! without draws -/
def upE (w : WE) : WEn := fun n ρ P => w ρ (P n)
def upT (w : WT) : WTn := fun n ρ P => w ρ (P n)
def upP (w : WP) : WPn := fun n ρ P => w ρ (P n)
def upS (w : WS) : WSn := fun E n ρ => w { nx := E.nx n, rt := E.rt n, bk := E.bk n, ct := E.ct n } ρ
theorem be_up {w : WE} (h : ∀ n, DE (Wp p n) X e w) : BE p X e (upE w) := pe_weak (pe_ex h) fun σ H Q h => by
  obtain ⟨n, F, ρ, H0, P, g, ev, h, k⟩ := h
  exact ⟨n, F, ρ, H0, P n, g, env_c ev, h, k.kd⟩
theorem bt_up {w : WT} (h : ∀ n, DT (Wp p n) X e w) : BT p X e (upT w) := pt_weak (pt_ex h) fun σ H Q h => by
  obtain ⟨n, F, ρ, H0, P, g, ev, h, k⟩ := h
  exact ⟨n, F, ρ, H0, P n, g, env_c ev, h, fun b q F' H' g' r' => k n b q F' H' g' (gr_c r')⟩
theorem bs_up {w : WS} (h : ∀ n, DS (Wp p n) H0 X st w) : BS p H0 X st (upS w) := ps_weak (ps_ex h) fun D σ H h => by
  obtain ⟨n, F0, F, ρ, E, g, r, ev, h, im⟩ := h
  exact ⟨n, F0, F, ρ, _, g, gr_c r, env_c ev, h, ⟨fun ρ' q σ' F' H' g' r' ev' => im.nx n ρ' q σ' F' H' g' (gr_c r') (env_c ev'), fun ρ' q σ' F' H' g' r' ev' => im.bk n ρ' q σ' F' H' g' (gr_c r') (env_c ev'), fun ρ' q σ' F' H' g' r' ev' => im.ct n ρ' q σ' F' H' g' (gr_c r') (env_c ev'), fun d q v F' H' g' r' rp => im.rt n d q v F' H' g' (gr_c r') rp⟩⟩
theorem bss_up {w : WS} (h : ∀ n, DSs (Wp p n) H0 X sts w) : BSs p H0 X sts (upS w) := pss_weak (pss_ex h) fun D σ H h => by
  obtain ⟨n, F0, F, ρ, E, g, r, ev, h, im⟩ := h
  exact ⟨n, F0, F, ρ, _, g, gr_c r, env_c ev, h, ⟨fun ρ' q σ' F' H' g' r' ev' => im.nx n ρ' q σ' F' H' g' (gr_c r') (env_c ev'), fun ρ' q σ' F' H' g' r' ev' => im.bk n ρ' q σ' F' H' g' (gr_c r') (env_c ev'), fun ρ' q σ' F' H' g' r' ev' => im.ct n ρ' q σ' F' H' g' (gr_c r') (env_c ev'), fun d q v F' H' g' r' rp => im.rt n d q v F' H' g' (gr_c r') rp⟩⟩
/-! operators, tests -/
def nOp (r : WO) (wa wb : WEn) : WEn := fun n ρ Q => wa n ρ fun m x => wb m ρ fun k y => r x y (Q k)
def OpDn (p : StP) (X : Cx) (f : Value → Value → Sem Value) (r : WO) : Prop := ∀ n, OpD (Wp p n) X f r
theorem opn {f : Value → Value → Sem Value} {r : WO} (h : OpDn p X f r) : OpR X f fun x y H Q => ∃ n F dx dy P, Gd (Wp p n) F H ∧ Rp X.K F x dx ∧ Rp X.K F y dy ∧ r dx dy P ∧ KD X.K (Wp p n) F H P Q := by
  intro pins s σ H x y v u Q I rx ry q
  obtain ⟨n, F, dx, dy, P, q⟩ := q
  exact h n pins s σ H x y v u Q I rx ry ⟨F, dx, dy, P, q⟩
theorem b_op {r : WO} {σ : L2.St} {H : Hp} {Q : VK} {K : PySem.W.Frag} (h : bE K p (nOp r wa wb) σ H Q) :
    tOp (fun x y H Q => ∃ n F dx dy P, Gd (Wp p n) F H ∧ Rp K F x dx ∧ Rp K F y dy ∧ r dx dy P ∧ KD K (Wp p n) F H P Q) (bE K p wa) (bE K p wb) σ H Q := by
  obtain ⟨n, F, ρ, H0, P, g, ev, h, k⟩ := h
  refine ⟨n, F, ρ, H0, _, g, ev, h, fun n1 dx hx vx F1 H1 g1 r1 px => ?_⟩
  refine ⟨n1, F1, ρ, H0, _, g1, ev.grow r1, hx, fun n2 dy hy vy F2 H2 g2 r2 py => ?_⟩
  exact ⟨n2, F2, dx, dy, _, g2, rp_mono r2.f _ _ px, py, hy, ((k.then r1).then r2).kd⟩
theorem be_bin {op : Operator} {r : WO} (ho : OpDn p X (binaryOp op) r) (ha : BE p X a wa) (hb : BE p X b wb) : BE p X (.BinOp a op b pos) (nOp r wa wb) := pe_weak (pe_op (opn ho) ha hb) fun _ _ _ h => b_op h
def nTst (w : WEn) : WTn := fun n ρ Q => w n ρ fun m d => match d with
  | .bool b => Q m b
  | _ => False
theorem bt_cmp {op : CmpOp} {r : WO} (ho : OpDn p X (compareOp op) r) (ha : BE p X a wa) (hb : BE p X b wb) (hm : behindInMarks op b = false) : BT p X (.Compare a [op] [b] pos) (nTst (nOp r wa wb)) :=
  pt_weak (pt_cmpR (opn ho) ha hb hm) fun σ H Q h => by
    obtain ⟨n, F, ρ, H0, P, g, ev, h, k⟩ := h
    refine b_op (σ := σ) ⟨n, F, ρ, H0, _, g, ev, h, fun m d q v F' H' g' r' dp => ?_⟩
    cases d with
    | bool b =>
      cases dp
      exact ⟨b, rfl, k m b q F' H' g' r'⟩
    | _ => exact q.elim
def nOr (t u : WTn) : WTn := fun n ρ Q => t n ρ fun m c => if c = true then Q m true else u m ρ Q
theorem bw_or1 (ha : BT p X a wx) : BW p X (.BoolOp .Or [a] pos) wx := pw_or1 ha
theorem bw_or {rest : List Expr} (ha : BT p X a wx) (hb : BW p X (.BoolOp .Or (b :: rest) pos) wy) : BW p X (.BoolOp .Or (a :: b :: rest) pos) (nOr wx wy) :=
  pw_weak (pw_or ha hb) fun σ H Q h => by
    obtain ⟨n, F, ρ, H0, P, g, ev, h, k⟩ := h
    refine ⟨n, F, ρ, H0, _, g, ev, h, fun m c q F1 H1 g1 r1 => ?_⟩
    cases c with
    | true => exact k m true q F1 H1 g1 r1
    | false => exact ⟨m, F1, ρ, H0, _, g1, ev.grow r1, q, fun m' b' q' F' H' g' r' => k m' b' q' F' H' g' (r1.trans r')⟩
def nIf (t : WTn) (wa wb : WEn) : WEn := fun n ρ Q => t n ρ fun m c => if c = true then wa m ρ Q else wb m ρ Q
theorem be_if (hc : BT p X c wx) (ha : BE p X a wa) (hb : BE p X b wb) : BE p X (.IfExp c a b pos) (nIf wx wa wb) := pe_weak (pe_ifExp hc ha hb) fun σ H Q h => by
  obtain ⟨n, F, ρ, H0, P, g, ev, h, k⟩ := h
  refine ⟨n, F, ρ, H0, _, g, ev, h, fun m c q F1 H1 g1 r1 => ?_⟩
  cases c with
  | true => exact ⟨m, F1, ρ, H0, P, g1, ev.grow r1, q, k.then r1⟩
  | false => exact ⟨m, F1, ρ, H0, P, g1, ev.grow r1, q, k.then r1⟩
/-! displays -/
def nNil : WPn := fun n _ Q => Q n []
def nCons (we : WEn) (w : WPn) : WPn := fun n ρ Q => we n ρ fun m d => w m ρ fun k ds => Q k (d :: ds)
theorem ba_nil : BAd p X [] nNil := pa_weak pa_nil fun σ H Q h => by
  obtain ⟨n, F, ρ, H0, P, g, ev, h, k⟩ := h
  exact k n [] h [] F H g Gr.refl .nil
theorem ba_cons (he : BE p X e wa) (hr : BAd p X es wp) (hs : starEach (e :: es) X.env = (false, eval e X.env) :: starEach es X.env := by rfl) : BAd p X (e :: es) (nCons wa wp) := pa_weak (pa_cons he hr hs) fun σ H Q h => by
  obtain ⟨n, F, ρ, H0, P, g, ev, h, k⟩ := h
  refine ⟨n, F, ρ, H0, _, g, ev, h, fun n1 dx hx vx F1 H1 g1 r1 px => ?_⟩
  exact ⟨n1, F1, ρ, H0, _, g1, ev.grow r1, hx, fun n2 ds hd vs F2 H2 g2 r2 ps => k n2 _ hd _ F2 H2 g2 (r1.trans r2) (.cons (rp_mono r2.f _ _ px) ps)⟩
def nTup (w : WPn) : WEn := fun n ρ Q => w n ρ fun m ds => ds.length ≤ sizeLine ∧ Q m (.tuple ds)
theorem be_tup {x1} (h : BAd p X es wp) : BE p X (.Tuple es x1 pos) (nTup wp) := pe_weak (pe_tup h) fun σ H Q h => by
  obtain ⟨n, F, ρ, H0, P, g, ev, h, k⟩ := h
  refine ⟨n, F, ρ, H0, _, g, ev, h, fun m ds hd vs F1 H1 g1 r1 ps => ⟨by rw [rpAll_len ps]; exact hd.1, fun t ht => ?_⟩⟩
  obtain ⟨g2, r2⟩ := g1.laid (o := .tup vs) ht
  exact k m _ hd.2 _ _ _ g2 (r1.trans (gr_c r2)) (rp_tupN g1 ht ps)
def nLst (w : WPn) : WEn := fun n ρ Q => w n ρ fun m ds => ds.length ≤ sizeLine ∧ Q m (.list ds)
theorem be_lst (h : BAd p X es wp) : BE p X (.List es pos) (nLst wp) := pe_weak (pe_lst h) fun σ H Q h => by
  obtain ⟨n, F, ρ, H0, P, g, ev, h, k⟩ := h
  refine ⟨n, F, ρ, H0, _, g, ev, h, fun m ds hd vs F1 H1 g1 r1 ps => ⟨by rw [rpAll_len ps]; exact hd.1, fun t ht => ?_⟩⟩
  have ft : F1 t = none := g1.fnone ht
  have fF : ∀ b u, F1 b = some u → upd F1 t (.lst vs) b = some u := fun b u q => by
    rw [upd_ne (fun z => by rw [z, ft] at q; cases q)]
    exact q
  have g2 : Gd (Wp p m) (upd F1 t (.lst vs)) (upd H1 t (.lst vs)) := (g1.laid (o := .lst vs) ht).1
  have r2 := (g1.laid (o := .lst vs) ht).2
  exact k m _ hd.2 _ _ _ g2 (r1.trans (gr_c r2)) (.lst (.inl upd_same) (rpAll_mono fF _ _ ps))
/-! calls -/
def nB (we : WEn) (w : WAn) : WAn := fun n ρ Q => we n ρ fun m d => w m ρ fun k bs => Q k (.val d :: bs)
def nBst (i : Nat) (w : WAn) : WAn := fun n ρ Q => match ρ.getD i .no with
  | .st => w n ρ fun k bs => Q k (.st :: bs)
  | _ => False
def nB0 : WAn := fun n _ Q => Q n []
theorem bb_nil : BA p X [] nB0 := pa_weak pa_nil fun σ H Q h => by
  obtain ⟨n, F, ρ, H0, P, g, ev, h, k⟩ := h
  exact k n [] h [] F H g Gr.refl .nil
theorem bb_cons (he : BE p X e wa) (hr : BA p X es wA) (hs : starEach (e :: es) X.env = (false, eval e X.env) :: starEach es X.env := by rfl) : BA p X (e :: es) (nB wa wA) := pa_weak (pa_cons he hr hs) fun σ H Q h => by
  obtain ⟨n, F, ρ, H0, P, g, ev, h, k⟩ := h
  refine ⟨n, F, ρ, H0, _, g, ev, h, fun n1 dx hx vx F1 H1 g1 r1 px => ?_⟩
  exact ⟨n1, F1, ρ, H0, _, g1, ev.grow r1, hx, fun n2 ds hd vs F2 H2 g2 r2 ps => k n2 _ hd _ F2 H2 g2 (r1.trans r2) (.cons (rp_mono r2.f _ _ px) ps)⟩
theorem bb_st (i : Nat) {y : Str} {q : Pos} (hr : BA p X es wA) (hN : X.N[i]? = some y := by rfl) (hv : Vis X.env.scope y := by first | exact Or.inl rfl | exact Or.inr (Or.inl rfl) | exact Or.inr (Or.inr rfl)) (hd : (y == ("__debug__" : Str)) = false := by decide)
    (hcd : (y == ("__classdict__" : Str)) = false := by decide) (hs : starEach (.Name y q :: es) X.env = (false, eval (.Name y q) X.env) :: starEach es X.env := by rfl) : BA p X (.Name y q :: es) (nBst i wA) := pa_weak (pa_cons (pe_var hN hv hd hcd) hr hs) fun σ H Q h => by
  obtain ⟨n, F, ρ, H0, P, g, ev, h, k⟩ := h
  unfold nBst at h
  have z := ev.slot i
  cases e : ρ.getD i .no with
  | st =>
    rw [e] at h z
    exact ⟨_, getD_some z, n, F, ρ, H0, _, g, ev, h, fun m ds hd vs F2 H2 g2 r2 ps => k m _ hd _ F2 H2 g2 r2 (.cons rfl ps)⟩
  | _ => rw [e] at h; exact h.elim
def nCall (sp : SpN) (np : Nat) (w : WAn) : WEn := fun n ρ Q => w n ρ fun m bs => bs.length = np ∧ sp m bs Q
/-- a def with a budget, called by its name -/
def CalN (P : Program) (w : World) (K : PySem.W.Frag) (mg : Str → Option Value) (base : Heap) (p : StP) (x : Str) (k np : Nat) (sp : SpN) : Prop :=
  ∃ (f : Addr) (fd : FuncData) (ps : List Str), FnOk P w K mg base CX0 k f fd ps (lSpN K p.tb p.d p.cl p.lf p.q np sp) ∧ mg x = some (.ref f) ∧ PySem.W.keepIn K (.ref f) = true ∧ Binds K fd ps []
theorem be_cal {k np : Nat} {sp : SpN} {p' : Pos} (C : CalN X.prog X.w X.K X.mg X.base p x k np sp) (hr : Room k X.A) (hg : Gl X x)
    (ha : BA p X (e :: es) wA) (hdb : (x == ("__debug__" : Str)) = false := by decide) (he : starEach (e :: es) X.env = (false, eval e X.env) :: starEach es X.env := by rfl) (hpl : (backTo pos (starEach es X.env)).any (·.1) = false := by rfl) :
    BE p X (.Call (.Name x p') (e :: es) [] pos) (nCall sp np wA) := by
  obtain ⟨f, fd, ps, F, hm, hk, hb⟩ := C
  refine pe_weak (pe_call F hr hg hm hk hb .nil pass0 ha hdb he hpl) fun σ H Q h => ?_
  obtain ⟨n, F, ρ, H0, P, g, ev, h, kk⟩ := h
  refine ⟨n, F, ρ, H0, _, g, ev, h, fun m bs q vs F1 H1 g1 r1 ps => ?_⟩
  show lSpN X.K p.tb p.d p.cl p.lf p.q np sp (vs ++ []) H1 Q E0
  rw [List.append_nil]
  exact ⟨m, F1, bs, P, q.1, g1, ps, q.2, kk.then r1⟩
theorem be_calD {k np : Nat} {sp : SpB} {p' : Pos} (C : ∀ n, Cal X.prog X.w X.K X.mg X.base (Wp p n) x k np sp) (hr : Room k X.A) (hg : Gl X x)
    (ha : BA p X (e :: es) wA) (hdb : (x == ("__debug__" : Str)) = false := by decide) (he : starEach (e :: es) X.env = (false, eval e X.env) :: starEach es X.env := by rfl) (hpl : (backTo pos (starEach es X.env)).any (·.1) = false := by rfl) :
    BE p X (.Call (.Name x p') (e :: es) [] pos) (nCall (fun m bs P => sp bs (P m)) np wA) := by
  refine ⟨fun pins s σ H Q I h => ?_⟩
  obtain ⟨n, F, ρ, H0, P, g, ev, h, kk⟩ := h
  obtain ⟨f, fd, ps, FF, hm, hk, hb⟩ := C 0
  refine wpAny_Call_Name_kw (ld_glob I hg hm ?_ hdb)
  refine PySem.W.callWith_K (h₀ := X.base) I.ok.mod.kin hk (thn (ha.run pos pins s σ H (fun vs H1 => ∃ m F1 bs, Gd (Wp p m) F1 H1 ∧ Gr (Wp p 0) F H F1 H1 ∧ Paired (ArgOk X.K (Wp p 0) F1) vs bs ∧ bs.length = np ∧ sp bs (P m)) I
    ⟨n, F, ρ, H0, _, g, ev, h, fun m bs q vs F1 H1 g1 r1 ps => ⟨m, F1, bs, g1, r1, ps, q.1, q.2⟩⟩) fun us s1 ⟨vs, H1, I1, r, q⟩ => ⟨I1.kIn, ?_⟩) he hpl
  obtain ⟨m, F1, bs, g1, r1, ps, hl, q⟩ := q
  obtain ⟨f', fd', ps', FF', hm', hk', hb'⟩ := C m
  rw [hm] at hm'
  cases hm'
  refine run_fn FF' hr hb' .nil pass0 I1 r ?_
  show lSp X.K (Wp p m) np sp (vs ++ []) H1 Q E0
  rw [List.append_nil]
  exact ⟨F1, bs, P m, hl, g1, ps, q, (kk.then r1).kd⟩
/-! built-ins -/
theorem shl_all {K : PySem.W.Frag} {W : Wd} {F H : Hp} : ∀ {vs : List V} {ds : List PyData}, RpAll K F vs ds → Paired (Shl K W F H) vs ds
  | _, _, .nil => .nil
  | _, _, .cons r t => .cons (.inl r) (shl_all t)
def nCallB (r : RB) (w : WPn) : WEn := fun n ρ Q => w n ρ fun m ds => r ds (Q m)
theorem callr_n {f : Value} {r : RB} (h : ∀ n, CallP (Wp p n) X f r) : CallR X f fun xs H Q => ∃ n F ds P, Gd (Wp p n) F H ∧ Paired (Shl X.K (Wp p n) F H) xs ds ∧ r ds P ∧ KD X.K (Wp p n) F H P Q := by
  intro pins s σ H xs us Q I rv q
  obtain ⟨n, q⟩ := q
  exact h n pins s σ H xs us Q I rv q
theorem be_callT {T : String} {r : RB} {p' : Pos} (hc : ∀ n, CallP (Wp p n) X (.type T) r) (hg : Gl X x) (hm : X.mg x = none) (hv : bootBuiltins x = some (.type T)) (ha : BAd p X (e :: es) wp) (hn : x ≠ "__name__" := by decide) (hdb : (x == ("__debug__" : Str)) = false := by decide)
    (he : starEach (e :: es) X.env = (false, eval e X.env) :: starEach es X.env := by rfl) (hpl : (backTo pos (starEach es X.env)).any (·.1) = false := by rfl) : BE p X (.Call (.Name x p') (e :: es) [] pos) (nCallB r wp) :=
  pe_weak (pe_callTy (callr_n hc) hg hm hv ha hn hdb he hpl) fun σ H Q h => by
    obtain ⟨n, F, ρ, H0, P, g, ev, h, k⟩ := h
    exact ⟨n, F, ρ, H0, _, g, ev, h, fun m ds q vs F1 H1 g1 r1 ps => ⟨m, F1, ds, _, g1, shl_all ps, q, (k.then r1).kd⟩⟩
/-! an item -/
theorem be_ix (ha : BE p X a wa) (hb : BE p X b wb) (hs : PlainIx b) : BE p X (.Subscript a b pos) (nOp Qd.rIxD wa wb) := pe_weak (pe_ix (ix_list.or ix_tup) ha hb hs) fun σ H Q h => by
  obtain ⟨n, F, ρ, H0, P, g, ev, h, k⟩ := h
  refine ⟨n, F, ρ, H0, _, g, ev, h, fun m dx hx vx F1 H1 g1 r1 px => ?_⟩
  refine ⟨m, F1, ρ, H0, _, g1, ev.grow r1, hx, fun m2 dy hy vy F2 H2 g2 r2 py => ?_⟩
  unfold Qd.rIxD at hy
  cases e : itemsD dx with
  | none => rw [e] at hy; exact hy.elim
  | some ds =>
    rw [e] at hy
    cases dy with
    | int i =>
      obtain ⟨d, hd, q⟩ := hy
      obtain ⟨a, xs, rfl, rx, hs⟩ := rp_items (W := Wp p m2) g2 (rp_mono r2.f _ _ px) e
      obtain ⟨v, hv, rv⟩ := at_rp rx hd
      cases py
      have kk := (k.then (r1.trans r2)).val g2 q rv
      rcases hs with hs | hs
      · exact .inl ⟨a, xs, i, v, rfl, rfl, hs _ _ g2 fun _ _ z => z, hv, kk⟩
      · exact .inr ⟨a, xs, i, v, rfl, rfl, hs _ _ g2 fun _ _ z => z, hv, kk⟩
    | _ => exact hy.elim
/-! statements -/
theorem ImpN.nx' {K : PySem.W.Frag} {H0 F0 : Hp} {E : EndN} {D : Ends} (i : ImpN K p H0 F0 E D) {N : Int → En → Prop} {N' : L2.St → Hp → Prop} (h : ∀ n ρ, N n ρ → ∀ σ F H, Gd (Wp p n) F H → Gr (Wp p 0) F0 H0 F H → EnvOk K (Wp p 0) H0 F H σ ρ → N' σ H) :
    ImpN K p H0 F0 { E with nx := N } { D with nx := N' } := ⟨h, i.bk, i.ct, i.rt⟩
variable {w w2 : WSn}
def nNext : WSn := fun E n ρ => E.nx n ρ
def nSeq (w w2 : WSn) : WSn := fun E n ρ => w { E with nx := fun m ρ' => w2 E m ρ' } n ρ
theorem bs_nil : BSs p H0 X [] nNext := pss_weak pss_nil fun D σ H h => by
  obtain ⟨n, F0, F, ρ, E, g, r, ev, h, im⟩ := h
  exact im.nx n ρ h σ F H g r ev
theorem bs_cons (h1 : BS p H0 X st w) (h2 : BSs p H0 X sts w2) : BSs p H0 X (st :: sts) (nSeq w w2) := pss_weak (pss_cons h1 h2) fun D σ H h => by
  obtain ⟨n, F0, F, ρ, E, g, r, ev, h, im⟩ := h
  exact ⟨n, F0, F, ρ, _, g, r, ev, h, im.nx' fun m ρ' q σ' F' H' g' r' ev' => ⟨m, F0, F', ρ', E, g', r', ev', q, im⟩⟩
theorem bs_one (h1 : BS p H0 X st w) : BSs p H0 X [st] w := pss_one h1
def nIfS (t : WTn) (w w2 : WSn) : WSn := fun E n ρ => t n ρ fun m c => if c = true then w E m ρ else w2 E m ρ
theorem bs_if (hc : BT p X c wx) (h1 : BSs p H0 X sts w) (h2 : BSs p H0 X sts' w2) : BS p H0 X (.If c sts sts' pos) (nIfS wx w w2) := ps_weak (ps_if hc h1 h2) fun D σ H h => by
  obtain ⟨n, F0, F, ρ, E, g, r, ev, h, im⟩ := h
  refine ⟨n, F, ρ, H0, _, g, ev, h, fun m b q F1 H1 g1 r1 => ?_⟩
  cases b with
  | true => exact ⟨m, F0, F1, ρ, E, g1, r.trans r1, ev.grow r1, q, im⟩
  | false => exact ⟨m, F0, F1, ρ, E, g1, r.trans r1, ev.grow r1, q, im⟩
def nRet (we : WEn) : WSn := fun E n ρ => we n ρ E.rt
theorem bs_ret (he : BE p X e wa) : BS p H0 X (.Return (some e) pos) (nRet wa) := ps_weak (ps_ret he) fun D σ H h => by
  obtain ⟨n, F0, F, ρ, E, g, r, ev, h, im⟩ := h
  exact ⟨n, F, ρ, H0, _, g, ev, h, fun m d q v F1 H1 g1 r1 rp => im.rt m d q v F1 H1 g1 (r.trans r1) rp⟩
def nSet (i : Nat) (we : WEn) : WSn := fun E n ρ => we n ρ fun m d => E.nx m (ρ.set i (.val d))
theorem bs_set {i : Nat} {pos' : Pos} (hN : X.N.Nodup) (hi : X.N[i]? = some x) (hx : Loc X.env.scope x) (he : BE p X e wa) (hs : swapsWith e (some (.Name x pos')) pos.line X.env = pure false := by rfl) (hf : X.fn x = true ∨ X.env.scope.names.lookup x = some .local := by first | exact .inl rfl | exact .inr rfl | assumption) :
    BS p H0 X (.Assign [.Name x pos'] e pos) (nSet i wa) := ps_weak (ps_set hN hi hx he hs hf) fun D σ H h => by
  obtain ⟨n, F0, F, ρ, E, gd, r, ev, h, im⟩ := h
  exact ⟨n, F, ρ, H0, _, gd, ev, h, fun m d q v F1 H1 g1 r1 rp => im.nx m _ q _ F1 H1 g1 (r.trans r1) ((ev.grow r1).setV i rp)⟩
def bG (K : PySem.W.Frag) (p : StP) (o : Option (List Nat)) (g : WG) : TG := fun v σ H Q => ∃ n, lG K (Wp p n) o g v σ H Q
theorem bg_up {o : Option (List Nat)} {tg : Expr} {g : WG} (h : ∀ n, DG (Wp p n) X o tg g) : PG X tg (bG X.K p o g) := ⟨fun pins s σ H v u Q I r ⟨n, q⟩ => (h n).run pins s σ H v u Q I r q⟩
def nAsg (we : WEn) (g : WG) : WSn := fun E n ρ => we n ρ fun m d => g d ρ (E.nx m)
theorem bs_asg {tg : Expr} {g : WG} (he : BE p X e wa) (hg : ∀ n, DG (Wp p n) X none tg g) (hs : swapsWithSole [tg] e pos.line X.env = pure false := by rfl) (hw : swappedStores [tg] e X.env = pure none := by rfl)
    (h1 : (assignEach [tg] X.env).map (·.2) = [assign tg X.env] := by rfl) : BS p H0 X (.Assign [tg] e pos) (nAsg wa g) := ps_weak (ps_asg he (bg_up hg) hs hw h1) fun D σ H h => by
  obtain ⟨n, F0, F, ρ, E, gd, r, ev, h, im⟩ := h
  refine ⟨n, F, ρ, H0, _, gd, ev, h, fun m d q v F1 H1 g1 r1 rp => ?_⟩
  exact ⟨m, F1, ρ, H0, d, _, g1, env_c (ev.grow r1), rp, q, fun ρ' q' σ' ev' _ => im.nx m ρ' q' σ' F1 H1 g1 (r.trans r1) (env_c ev')⟩
/-! loops -/
def bI (K : PySem.W.Frag) (p : StP) (w : WPn) : TI := fun σ H R => ∃ n F ρ H0 P, Gd (Wp p n) F H ∧ EnvOk K (Wp p 0) H0 F H σ ρ ∧ w n ρ P ∧ ∀ m ds, P m ds → ∀ J F1 H1, Gd (Wp p m) F1 H1 → Gr (Wp p 0) F H F1 H1 → (∀ m', ItD K (Wp p m') F1 J ds) → R J H1
abbrev BI (p : StP) (X : Cx) (tg iter : Expr) (w : WPn) : Prop := PI X tg iter (bI X.K p w)
def nRng (we : WEn) : WPn := fun n ρ Q => we n ρ fun m d => match d with
  | .int n => (-(2 ^ 62) ≤ n ∧ n < 2 ^ 62) ∧ Q m (rngD n.toNat)
  | _ => False
theorem bi_rng {tg : Expr} {p' : Pos} (he : BE p X e wa) (hg : Gl X "range") (hm : X.mg "range" = none) (hs : starEach [e] X.env = [(false, eval e X.env)] := by rfl) : BI p X tg (.Call (.Name "range" p') [e] [] pos) (nRng wa) :=
  pi_weak (pi_range1 hg hm (pa_cons he pa_nil hs) hs) fun σ H R h => by
    obtain ⟨n, F, ρ, H0, P, g, ev, h, k⟩ := h
    refine ⟨n, F, ρ, H0, _, g, ev, h, fun m d q v F1 H1 g1 r1 rp => ?_⟩
    cases d with
    | int n =>
      cases rp
      obtain ⟨⟨q1, q2⟩, q⟩ := q
      exact ⟨n, rfl, q1, q2, k m _ q _ F1 H1 g1 r1 fun m' => itd_range n.toNat⟩
    | _ => exact q.elim
def nForL (g : WG) (tb : WSn) : List PyData → WSn
  | [] => fun E n ρ => E.nx n ρ
  | d :: ds => fun E n ρ => g d ρ fun ρ' => tb { E with nx := nForL g tb ds E, ct := nForL g tb ds E, bk := E.nx } n ρ'
def nFor (wl : WPn) (g : WG) (tb : WSn) : WSn := fun E n ρ => wl n ρ fun m ds => nForL g tb ds E m ρ
theorem bs_for {tg iter : Expr} {wl : WPn} {g : WG} (hp : PassesOwn (model X.prog X.w) X.A X.env X.xe) (hc : X.calm = true) (hi : BI p X tg iter wl) (hg : ∀ n, DG (Wp p n) X none tg g) (hb : BSs p H0 X sts w)
    (hs : ∀ x, foldedSetIterable iter X.env x = pure x := by intro _; rfl) : BS p H0 X (.For tg iter sts [] pos) (nFor wl g w) := ps_weak (ps_for hp hc hi (bg_up hg) hb hs) fun D σ H h => by
  obtain ⟨n, F0, F, ρ, E, gd, r, ev, h, im⟩ := h
  refine ⟨n, F, ρ, H0, _, gd, ev, h, fun n1 ds q J F1 H1 g1 r1 it => ?_⟩
  refine ⟨fun i m σ H => i + m = ds.length ∧ ∃ n F ρ, Gd (Wp p n) F H ∧ Gr (Wp p 0) F0 H0 F H ∧ (∀ b o, F1 b = some o → F b = some o) ∧ EnvOk X.K (Wp p 0) H0 F H σ ρ ∧ nForL g w (ds.drop i) E n ρ, ⟨ds.length, by omega, n1, F1, ρ, g1, r.trans r1, fun _ _ z => z, ev.grow r1, q⟩, ?_⟩
  rintro i m σ2 H2 ⟨hm, n2, F2, ρ2, g2, r2, f2, ev2, q2⟩
  by_cases hi : i < ds.length
  · have hd : ds.drop i = ds[i] :: ds.drop (i + 1) := List.drop_eq_getElem_cons hi
    rw [hd] at q2
    refine .inr ⟨(it n2).go i F2 H2 g2 f2 hi, fun σ H => ∃ n F ρ, Gd (Wp p n) F H ∧ Gr (Wp p 0) F0 H0 F H ∧ (∀ b o, F1 b = some o → F b = some o) ∧ EnvOk X.K (Wp p 0) H0 F H σ ρ ∧ nForL g w (ds.drop (i + 1)) E n ρ, fun σ' H' z => ⟨m - 1, by omega, by omega, z⟩, fun x H' y => ?_⟩
    obtain ⟨F3, g3, r3, rp⟩ := (it n2).yld i ds[i] F2 H2 x H' g2 f2 (List.getElem?_eq_getElem hi) y
    have r3' : Gr (Wp p 0) F2 H2 F3 H' := gr_c r3
    have r23 := r2.trans r3'
    have f13 : ∀ b o, F1 b = some o → F3 b = some o := fun b o z => r3.f b o (f2 b o z)
    refine ⟨n2, F3, ρ2, H0, ds[i], _, g3, env_c (ev2.grow r3'), rp, q2, fun ρ4 q4 σ4 ev4 _ => ⟨n2, F3, F3, ρ4, _, g3, r23.here, env_c ev4, q4, ?_⟩⟩
    refine ⟨fun n' ρ' q' σ' F' H' g' r' ev' => ⟨n', F', ρ', g', r23.then' r', fun b o z => r'.f b o (f13 b o z), ev', q'⟩, fun n' ρ' q' σ' F' H' g' r' ev' => im.nx n' ρ' q' σ' F' H' g' (r23.then' r') ev',
      fun n' ρ' q' σ' F' H' g' r' ev' => ⟨n', F', ρ', g', r23.then' r', fun b o z => r'.f b o (f13 b o z), ev', q'⟩, fun n' d q' v F' H' g' r' rp' => im.rt n' d q' v F' H' g' (r23.then' r') rp'⟩
  · have hl : i = ds.length := by omega
    subst hl
    rw [List.drop_length] at q2
    exact .inl ⟨(it n2).stop F2 H2 g2 f2, im.nx _ _ q2 _ F2 H2 g2 r2 ev2⟩
/-! [elt for name in range(..) if a test that draws] -/
def nLcL (g : WG) (tt : WTn) (te : WE) : List PyData → List PyData → Int → En → (Int → List PyData → Prop) → Prop
  | [], acc, n, _, Q => Q n acc
  | d :: ds, acc, n, ρ, Q => g d ρ fun ρ' => tt n ρ' fun m b => if b = true then te ρ' fun x => acc.length < sizeLine ∧ nLcL g tt te ds (acc ++ [x]) m ρ Q else nLcL g tt te ds acc m ρ Q
def nLc (wl : WPn) (g : WG) (tt : WTn) (te : WE) (vs : List Nat) : WPn := fun n ρ Q => wl n ρ fun m ds => nLcL g tt te ds [] m (wipeR ρ vs) Q
def bF (K : PySem.W.Frag) (p : StP) (w : WPn) : TE := fun σ H Q => ∃ n F ρ H0 P, Gd (Wp p n) F H ∧ EnvOk K (Wp p 0) H0 F H σ ρ ∧ w n ρ P ∧
  ∀ m ds, P m ds → ∀ a xs F' H', Gd (Wp p m) F' H' → Gr (Wp p 0) F H F' H' → H a = none → H' a = some (.lst xs) → F' a = none → RpAll K F' xs ds → Q (.ref a) H'
abbrev BF (p : StP) (X : Cx) (e : Expr) (w : WPn) : Prop := PE X e (bF X.K p w)
abbrev BTs (p : StP) (X : Cx) (es : List Expr) (w : WTn) : Prop := PTs X es (bT X.K p w)
theorem bts_one (h : BT p X c wx) : BTs p X [c] wx := pts_one h
def nFz (w : WPn) : WEn := fun n ρ Q => w n ρ fun m ds => Q m (.list ds)
theorem BF.be {w : WPn} (h : BF p X e w) : BE p X e (nFz w) := by
  refine pe_weak h fun σ H Q h => ?_
  obtain ⟨n, F, ρ, H0, P, g, ev, h, k⟩ := h
  refine ⟨n, F, ρ, H0, _, g, ev, h, fun m ds q a xs F' H' gd gr hn ha hf dp => ?_⟩
  have hp : ∀ b u, F' b = some u → b ≠ a := fun b u q z => by rw [z, hf] at q; cases q
  have fF : ∀ b u, F' b = some u → upd F' a (.lst xs) b = some u := fun b u q => by rw [upd_ne (hp b u q)]; exact q
  have na : ∀ b, H b ≠ none → b ≠ a := fun b q z => q (by rw [z]; exact hn)
  have nm : ¬ (Wp p n).M a := g.notM hn
  refine k m _ q _ (upd F' a (.lst xs)) H' ⟨fun b u q => ?_, fun b m => ?_, gd.mh, (Wp p m).stab _ _ _ _ gd.j fF (fun _ _ => rfl), fun b ys q => fF b _ (gd.tp b ys q)⟩ ⟨fun b u q => fF b u (gr.f b u q), fun b q => ?_, gr.h, gr.k⟩ (.lst (.inl upd_same) (rpAll_mono fF _ _ dp))
  · by_cases z : b = a
    · subst z
      rw [upd_same] at q
      rw [ha]
      exact q
    · rw [upd_ne z] at q
      exact gd.sub b u q
  · rw [upd_ne (fun z => nm (by rw [← z]; exact m))]
    exact gd.mf b m
  · rw [upd_ne (na b q)]
    exact gr.n b q
theorem lcN_run {K : PySem.W.Frag} {g : WG} {tt : WTn} {te : WE} {vs : List Nat} {σ : L2.St} {F H : Hp} {ρ : En} {P : Int → List PyData → Prop} {Q : VK} {J : It} {ds : List PyData} {F1 H1 : Hp} {D : Addr} {n0 n1 : Int}
    (gd : Gd (Wp p n0) F H) (g1 : Gd (Wp p n1) F1 H1) (r1 : Gr (Wp p 0) F H F1 H1) (ev : EnvOk K (Wp p 0) H0 F1 H1 σ ρ) (it : ∀ m, ItD K (Wp p m) F1 J ds) (hD : H1 D = none) (q : nLcL g tt te ds [] n1 (wipeR ρ vs) P)
    (k : ∀ m ds, P m ds → ∀ a xs F' H', Gd (Wp p m) F' H' → Gr (Wp p 0) F H F' H' → H a = none → H' a = some (.lst xs) → F' a = none → RpAll K F' xs ds → Q (.ref a) H') :
    ∃ Wn : Nat → Nat → Hp → Prop, (∃ m, Wn 0 m (upd H1 D (.lst []))) ∧ ∀ i m H, Wn i m H →
      (J.stop i H ∧ Q (.ref D) H) ∨ (J.go i H ∧ ∃ Nx : Hp → Prop, (∀ H', Nx H' → ∃ m', m' < m ∧ Wn (i + 1) m' H') ∧ ∀ x H', J.yld i H x H' → bG K p (some vs) g x (wipe σ vs) H' fun σ2 H2 => wipe σ2 vs = wipe σ vs ∧ bT K p tt σ2 H2 fun b H3 =>
        if b = true then bE K p (upE te) σ2 H3 fun y H4 => ∃ acc, H4 D = some (.lst acc) ∧ acc.length < sizeLine ∧ Nx (upd H4 D (.lst (acc ++ [y]))) else Nx H3) := by
  have nm : ¬ (Wp p 0).M D := g1.notM hD
  have hDH : H D = none := r1.none_of hD
  refine ⟨fun i m H2 => i + m = ds.length ∧ ∃ n F2 acc xs, Gd (Wp p n) F2 H2 ∧ Gr (Wp p 0) F1 H1 F2 H2 ∧ F2 D = none ∧ H2 D = some (.lst xs) ∧ RpAll K F2 xs acc ∧ nLcL g tt te (ds.drop i) acc n (wipeR ρ vs) P,
    ⟨ds.length, by omega, n1, F1, [], [], g1.free (g1.fnone hD) nm, Gr.new hD, g1.fnone hD, upd_same, .nil, q⟩, ?_⟩
  rintro i m H2 ⟨hm, n2, F2, acc, xs, g2, r2, fD, eD, ra, q2⟩
  by_cases hi : i < ds.length
  · have hd : ds.drop i = ds[i] :: ds.drop (i + 1) := List.drop_eq_getElem_cons hi
    rw [hd] at q2
    refine .inr ⟨(it n2).go i F2 H2 g2 r2.f hi, fun H' => ∃ n F' acc xs, Gd (Wp p n) F' H' ∧ Gr (Wp p 0) F1 H1 F' H' ∧ F' D = none ∧ H' D = some (.lst xs) ∧ RpAll K F' xs acc ∧ nLcL g tt te (ds.drop (i + 1)) acc n (wipeR ρ vs) P, fun H' z => ⟨m - 1, by omega, by omega, z⟩, fun x H3 y => ?_⟩
    obtain ⟨F3, g3, r3, rp⟩ := (it n2).yld i ds[i] F2 H2 x H3 g2 r2.f (List.getElem?_eq_getElem hi) y
    have r3' : Gr (Wp p 0) F2 H2 F3 H3 := gr_c r3
    have hD2 : H2 D ≠ none := by rw [eD]; simp
    have eD3 : H3 D = some (.lst xs) := r3.h D _ nm eD
    have fD3 : F3 D = none := (r3.n D hD2).trans fD
    have r13 := r2.trans r3'
    have ev3 := (ev.grow r13).wipe vs
    refine ⟨n2, F3, _, H0, ds[i], _, g3, env_c ev3, rp, q2, fun ρ4 q4 σ4 ev4 s4 => ⟨(show wipe σ4 vs = wipe (wipe σ vs) vs from s4).trans (wipe_wipe σ vs), n2, F3, ρ4, H0, _, g3, env_c ev4, q4, fun n5 b qb F5 H5 g5 r5 => ?_⟩⟩
    have hD3 : H3 D ≠ none := by rw [eD3]; simp
    have eD5 : H5 D = some (.lst xs) := r5.h D _ nm eD3
    have fD5 : F5 D = none := (r5.n D hD3).trans fD3
    have f25 : ∀ b o, F2 b = some o → F5 b = some o := (r3'.trans r5).f
    cases b with
    | false => exact ⟨n5, F5, acc, xs, g5, r13.trans r5, fD5, eD5, rpAll_mono f25 _ _ ra, qb⟩
    | true =>
      refine ⟨n5, F5, ρ4, H0, fun m x => acc.length < sizeLine ∧ nLcL g tt te (ds.drop (i + 1)) (acc ++ [x]) m (wipeR ρ vs) P, g5, (env_c (p := p) (m := n2) (n := 0) ev4).grow r5, qb, fun n6 d qd v F6 H6 g6 r6 rd => ?_⟩
      have hD5 : H5 D ≠ none := by rw [eD5]; simp
      have eD6 : H6 D = some (.lst xs) := r6.h D _ nm eD5
      have fD6 : F6 D = none := (r6.n D hD5).trans fD5
      have f26 : ∀ b o, F2 b = some o → F6 b = some o := ((r3'.trans r5).trans r6).f
      obtain ⟨hz, qd⟩ := qd
      refine ⟨xs, eD6, by rw [rpAll_len ra]; exact hz, n6, F6, acc ++ [d], xs ++ [v], g6.free fD6 nm, ?_, fD6, upd_same, rpAll_app (rpAll_mono f26 _ _ ra) (.cons rd .nil), qd⟩
      exact ((r13.trans r5).trans r6).chg hD
  · have hl : i = ds.length := by omega
    subst hl
    rw [List.drop_length] at q2
    exact .inl ⟨(it n2).stop F2 H2 g2 r2.f, k n2 acc q2 D xs F2 H2 g2 (r1.trans r2) hDH eD fD ra⟩
theorem bf_lc {elt tg iter : Expr} {scope : Scope} {own : List (Str × Nat)} {wl : WPn} {g : WG} {te : WE} (hc : X.calm = true) (hN : X.N.Nodup) (hi : BI p X tg iter wl) (ok : BlkOk X.N X.env.scope scope own)
    (hg : ∀ n (s : Shared) (H : Hp) (C : Addr) (cl : List (Str × Addr)) (fp : List Addr), DG (Wp p n) (X.blk s H scope (compEnvC scope cl C X.env) fp) (some (own.map (·.2))) tg g) (ht : ∀ (s : Shared) (H : Hp) (C : Addr) (cl : List (Str × Addr)) (fp : List Addr), BT p (X.blk s H scope (compEnvC scope cl C X.env) fp) c wx)
    (he : ∀ n (s : Shared) (H : Hp) (C : Addr) (cl : List (Str × Addr)) (fp : List Addr), DE (Wp p n) (X.blk s H scope (compEnvC scope cl C X.env) fp) elt te) (hs : ∀ x, foldedSetIterable iter X.env x = pure x := by intro _; rfl) :
    BF p X (.ListComp elt [⟨tg, iter, [c], 0⟩] scope pos) (nLc wl g wx te (own.map (·.2))) := pe_weak (pe_lc hc hN hi ok (fun s H C cl fp => bg_up fun n => hg n s H C cl fp) (fun s H C cl fp => bts_one (ht s H C cl fp)) (fun s H C cl fp => be_up fun n => he n s H C cl fp) hs) fun σ H Q h => by
  obtain ⟨n, F, ρ, H0, P, gd, ev, h, k⟩ := h
  exact ⟨n, F, ρ, H0, _, gd, ev, h, fun m ds q J F1 H1 g1 r1 it D hD => lcN_run gd g1 r1 (ev.grow r1) it hD q k⟩
end
end Qp
set_option maxHeartbeats 4000000
namespace Qd
open PySem PySem.Spec PyProof.Rows L2
/-- the slot's own list is frozen before the statement -/
def wFrz (i : Nat) (w : WS) : WS := fun E ρ => match ρ.getD i .no with
  | .lst ds => w E (ρ.set i (.val (.list ds)))
  | _ => False
theorem ds_frz {W : Wd} {H0 : Hp} {X : Cx} {st : Stmt} {w : WS} (i : Nat) (h : DS W H0 X st w) : DS W H0 X st (wFrz i w) := ps_weak h fun D σ H h => by
  obtain ⟨F0, F, ρ, E, g, r, ev, h, im⟩ := h
  unfold wFrz at h
  have z := ev.slot i
  cases e : ρ.getD i .no with
  | lst ds =>
    rw [e] at h z
    obtain ⟨a, xs, e1, ha, rp, hf, nm, hn⟩ := z
    have hp : ∀ b u, F b = some u → b ≠ a := fun b u q z => by rw [z, hf] at q; cases q
    have fF : ∀ b u, F b = some u → upd F a (.lst xs) b = some u := fun b u q => by rw [upd_ne (hp b u q)]; exact q
    have na : ∀ b, H0 b ≠ none → b ≠ a := fun b q z => q (by rw [z]; exact hn)
    refine ⟨F0, upd F a (.lst xs), _, E, ⟨fun b u q => ?_, fun b m => ?_, g.mh, W.stab _ _ _ _ g.j fF (fun _ _ => rfl), fun b ys q => fF b _ (g.tp b ys q)⟩, ⟨fun b u q => fF b u (r.f b u q), fun b q => ?_, r.h, r.k⟩, ?_, h, im⟩
    · by_cases z : b = a
      · subst z
        rw [upd_same] at q
        rw [ha]
        exact q
      · rw [upd_ne z] at q
        exact g.sub b u q
    · rw [upd_ne (fun z => nm (by rw [← z]; exact m))]
      exact g.mf b m
    · rw [upd_ne (na b q)]
      exact r.n b q
    · have own' : ∀ j, Own ((ρ.set i (.val (.list ds))).getD j .no) → j ≠ i ∧ Own (ρ.getD j .no) := fun j o => by
        rw [getD_set] at o
        by_cases q : i = j ∧ j < ρ.length
        · rw [if_pos q] at o
          exact o.elim
        · rw [if_neg q] at o
          refine ⟨fun z => ?_, o⟩
          by_cases l : j < ρ.length
          · exact q ⟨z.symm, l⟩
          · rw [List.getD_eq_getElem?_getD, List.getElem?_eq_none (by omega)] at o
            exact o
      refine ⟨by rw [List.length_set]; exact ev.len, fun j => ?_, fun j k b hjk oj ok ej ek => ev.uniq j k b hjk (own' j oj).2 (own' k ok).2 ej ek⟩
      rw [getD_set]
      by_cases q : i = j ∧ j < ρ.length
      · rw [if_pos q, ← q.1]
        exact ⟨_, e1, .lst (.inl upd_same) (rpAll_mono fF _ _ rp)⟩
      · rw [if_neg q]
        have s := ev.slot j
        have nb : ∀ b, σ.getD j none = some (.ref b) → Own (ρ.getD j .no) → b ≠ a := fun b eb ob z => by
          subst z
          refine ev.uniq i j b (fun z => ?_) (by rw [e]; exact trivial) ob e1 eb
          subst z
          by_cases l : i < ρ.length
          · exact q ⟨rfl, l⟩
          · rw [List.getD_eq_getElem?_getD, List.getElem?_eq_none (by omega)] at e
            cases e
        cases z : ρ.getD j .no with
        | lst es =>
          rw [z] at s nb
          obtain ⟨b, ys, b1, b2, b3, b4, b5⟩ := s
          exact ⟨b, ys, b1, b2, rpAll_mono fF _ _ b3, by rw [upd_ne (nb b b1 trivial)]; exact b4, b5⟩
        | val d =>
          rw [z] at s
          obtain ⟨v, s1, s2⟩ := s
          exact ⟨v, s1, rp_mono fF _ _ s2⟩
        | st => rw [z] at s; exact s
        | no => exact trivial
        | dK es =>
          rw [z] at s nb
          obtain ⟨b, ys, b1, b2, b3, b4, b5⟩ := s
          exact ⟨b, ys, b1, b2, kvAll_mono fF b3, by rw [upd_ne (nb b b1 trivial)]; exact b4, b5⟩
        | dT es =>
          rw [z] at s nb
          obtain ⟨b, ys, b1, b2, b3, b4, b5⟩ := s
          exact ⟨b, ys, b1, b2, kvAll_mono fF b3, by rw [upd_ne (nb b b1 trivial)]; exact b4, b5⟩
  | _ => rw [e] at h; exact h.elim
end Qd
namespace Qp
open PySem PySem.Spec PyProof.Rows L2 Qd
/-- THE RULE for a def with a budget -/
theorem fn_b {P : Program} {w : World} {K : PySem.W.Frag} {mg : Str → Option Value} {base : Heap} {x qual : Str} {params : Arguments} {body : List Stmt} {scope : Scope} {f : Addr} {fd : FuncData} {N ps : List Str} {k : Nat} {sp : SpN} {p : StP} {wb : WSn}
    (F : FunD K x qual params body scope [] [] f fd) (S : FnScope N ps scope)
    (hd : ∀ (cdv : Value) (A : Around) (outer : List Env) (s : Shared) (H : Hp) (E : XK), Room k (A.deeper (envOfC qual scope s.heap.objs.size f cdv)) → BSs p H (cxOf CX0 P w K mg base N qual scope f cdv A outer s H E).nox body wb)
    (hw : ∀ n bs Q, sp n bs Q → wb { nx := fun m _ => Q m .none, rt := Q } n (bs ++ List.replicate (N.length - bs.length) .no)) : FnOk P w K mg base CX0 (k + 1) f fd ps (lSpN K p.tb p.d p.cl p.lf p.q ps.length sp) := by
  refine F.ok S (fun vs H Q E h => ?_) (fun cdv A outer s H vs Q E hr h => ?_)
  · obtain ⟨n, F', bs, P', hl, g, ps', h, k'⟩ := h
    rw [Paired.length ps']
    exact hl
  · obtain ⟨n, F', bs, P', hl, g, ps', h, k'⟩ := h
    refine ⟨_, (hd cdv A outer s H E hr).nox, ?_⟩
    refine ⟨n, F', F', _, _, g, Gr.refl, start_env ps', hw n bs P' h, ⟨fun m ρ q σ F1 H1 g1 r1 ev => k' m .none q .non F1 H1 g1 r1 .non, fun _ _ q => q.elim, fun _ _ q => q.elim, fun m d q v F1 H1 g1 r1 rp => k' m d q v F1 H1 g1 r1 rp⟩⟩
abbrev sp__law_draw : SpN := sp_draw
/-- a loop over a source of the kit's, walked as ds -/
theorem bs_forX {p : StP} {H0 : Hp} {X : Cx} {sts : List Stmt} {pos : Pos} {tg iter : Expr} {t : TI} {g : WG} {w : WSn} (hp : PassesOwn (model X.prog X.w) X.A X.env X.xe) (hc : X.calm = true) (hi : PI X tg iter t) (hg : ∀ n, DG (Wp p n) X none tg g) (hb : BSs p H0 X sts w)
    (hs : ∀ x, foldedSetIterable iter X.env x = pure x := by intro _; rfl) : PS X (.For tg iter sts [] pos) (fun D σ H => ∃ ds, bS X.K p H0 (nForL g w ds) D σ H ∧ ∀ R, (∀ J, (∀ F1 m', ItD X.K (Wp p m') F1 J ds) → R J H) → t σ H R) := ps_weak (ps_for hp hc hi (bg_up hg) hb hs) fun D σ H h => by
  obtain ⟨ds, ⟨n1, F0, F1, ρ, E, g1, r1, ev, q, im⟩, ht⟩ := h
  refine ht _ fun J it => ?_
  refine ⟨fun i m σ H => i + m = ds.length ∧ ∃ n F ρ, Gd (Wp p n) F H ∧ Gr (Wp p 0) F0 H0 F H ∧ (∀ b o, F1 b = some o → F b = some o) ∧ EnvOk X.K (Wp p 0) H0 F H σ ρ ∧ nForL g w (ds.drop i) E n ρ, ⟨ds.length, by omega, n1, F1, ρ, g1, r1, fun _ _ z => z, ev, q⟩, ?_⟩
  rintro i m σ2 H2 ⟨hm, n2, F2, ρ2, g2, r2, f2, ev2, q2⟩
  by_cases hi : i < ds.length
  · have hd : ds.drop i = ds[i] :: ds.drop (i + 1) := List.drop_eq_getElem_cons hi
    rw [hd] at q2
    refine .inr ⟨(it F1 n2).go i F2 H2 g2 f2 hi, fun σ H => ∃ n F ρ, Gd (Wp p n) F H ∧ Gr (Wp p 0) F0 H0 F H ∧ (∀ b o, F1 b = some o → F b = some o) ∧ EnvOk X.K (Wp p 0) H0 F H σ ρ ∧ nForL g w (ds.drop (i + 1)) E n ρ, fun σ' H' z => ⟨m - 1, by omega, by omega, z⟩, fun x H' y => ?_⟩
    obtain ⟨F3, g3, r3, rp⟩ := (it F1 n2).yld i ds[i] F2 H2 x H' g2 f2 (List.getElem?_eq_getElem hi) y
    have r3' : Gr (Wp p 0) F2 H2 F3 H' := gr_c r3
    have r23 := r2.trans r3'
    have f13 : ∀ b o, F1 b = some o → F3 b = some o := fun b o z => r3.f b o (f2 b o z)
    refine ⟨n2, F3, ρ2, H0, ds[i], _, g3, env_c (ev2.grow r3'), rp, q2, fun ρ4 q4 σ4 ev4 _ => ⟨n2, F3, F3, ρ4, _, g3, r23.here, env_c ev4, q4, ?_⟩⟩
    refine ⟨fun n' ρ' q' σ' F' H' g' r' ev' => ⟨n', F', ρ', g', r23.then' r', fun b o z => r'.f b o (f13 b o z), ev', q'⟩, fun n' ρ' q' σ' F' H' g' r' ev' => im.nx n' ρ' q' σ' F' H' g' (r23.then' r') ev',
      fun n' ρ' q' σ' F' H' g' r' ev' => ⟨n', F', ρ', g', r23.then' r', fun b o z => r'.f b o (f13 b o z), ev', q'⟩, fun n' d q' v F' H' g' r' rp' => im.rt n' d q' v F' H' g' (r23.then' r') rp'⟩
  · have hl : i = ds.length := by omega
    subst hl
    rw [List.drop_length] at q2
    exact .inl ⟨(it F1 n2).stop F2 H2 g2 f2, im.nx _ _ q2 _ F2 H2 g2 r2 ev2⟩
/-- the law behind its first statement -/
def tLaw (K : PySem.W.Frag) (p : StP) (H0 : Hp) (w wr : WSn) : TS := fun D σ H => ∃ (a : Addr) (ns : List Int), σ[0]? = some (some (.ref a)) ∧ SqL K H a (ns.map V.int) ∧ ns.length ≤ 1000 ∧ bS K p H0 (nSeq (nForL (wgName 2) w (rngD (5 + min ns.length 8))) wr) D σ H
end Qp
set_option maxHeartbeats 2000000
namespace Qp
open PySem PySem.Spec PyProof.Rows L2 Qd
/-! ### comprehensions and loops over mapped lists -/
theorem lc_filt {α : Type} {g : WG} {tt : WT} {te : WE} (enc : α → PyData) (p : α → Bool) (f : α → PyData) : ∀ {xs : List α} {acc : List PyData} {ρ : En} {Q : List PyData → Prop}, acc.length + xs.length ≤ sizeLine →
    (∀ x ∈ xs, ∀ (Q1 : PyData → Prop) (Q2 : Prop), (p x = true → Q1 (f x)) → (p x = false → Q2) → g (enc x) ρ fun ρ' => tt ρ' fun b => if b = true then te ρ' Q1 else Q2) →
    Q (acc ++ (xs.filter p).map f) → wLcL g tt te (xs.map enc) acc ρ Q
  | [], acc, ρ, Q, _, _, q => by
    rw [List.filter_nil, List.map_nil, List.append_nil] at q
    exact q
  | x :: xs, acc, ρ, Q, hz, h, q => by
    rw [List.map_cons]
    rw [List.length_cons] at hz
    show g (enc x) ρ fun ρ' => tt ρ' fun b => if b = true then te ρ' (fun x => acc.length < sizeLine ∧ wLcL g tt te (xs.map enc) (acc ++ [x]) ρ Q) else wLcL g tt te (xs.map enc) acc ρ Q
    refine h x List.mem_cons_self _ _ (fun e => ⟨by omega, ?_⟩) (fun e => ?_)
    · refine lc_filt enc p f (by rw [List.length_append, List.length_singleton]; omega) (fun y hy => h y (List.mem_cons_of_mem _ hy)) ?_
      rw [List.filter_cons_of_pos e, List.map_cons] at q
      rw [List.append_assoc]
      exact q
    · refine lc_filt enc p f (by omega) (fun y hy => h y (List.mem_cons_of_mem _ hy)) ?_
      rw [List.filter_cons_of_neg (by rw [e]; simp)] at q
      exact q
theorem lc_map {α : Type} {g : WG} {te : WE} (enc : α → PyData) (f : α → PyData) {xs : List α} {ρ : En} {Q : List PyData → Prop} (hz : xs.length ≤ sizeLine)
    (h : ∀ x ∈ xs, ∀ Q : PyData → Prop, Q (f x) → g (enc x) ρ fun ρ' => te ρ' Q) (q : Q (xs.map f)) : wLcL g wYes te (xs.map enc) [] ρ Q := by
  refine lc_filt enc (fun _ => true) f (by rw [List.length_nil]; omega) (fun x hx Q1 Q2 h1 _ => ?_) ?_
  · exact h x hx Q1 (h1 rfl)
  · rw [List.nil_append, List.filter_eq_self.mpr fun _ _ => rfl]
    exact q
theorem for_ind {α β : Type} {g : WG} {tb : WS} (enc : α → PyData) (R : β → En → Prop) (step : β → α → β) : ∀ {xs : List α} {s : β} {ρ : En} {E : WEnds}, R s ρ →
    (∀ (s : β) (x : α) (ρ : En) (E' : WEnds), x ∈ xs → R s ρ → E'.rt = E.rt → (∀ ρ', R (step s x) ρ' → E'.nx ρ') → (∀ ρ', R (step s x) ρ' → E'.ct ρ') → g (enc x) ρ fun ρ' => tb E' ρ') →
    (∀ ρ', R (xs.foldl step s) ρ' → E.nx ρ') → wForL g tb (xs.map enc) E ρ
  | [], s, ρ, E, r, _, q => q ρ r
  | x :: xs, s, ρ, E, r, h, q => by
    rw [List.map_cons]
    show g (enc x) ρ fun ρ' => tb { E with nx := wForL g tb (xs.map enc) E, ct := wForL g tb (xs.map enc) E, bk := E.nx } ρ'
    have go : ∀ ρ', R (step s x) ρ' → wForL g tb (xs.map enc) E ρ' := fun ρ' r' => for_ind enc R step r' (fun s y ρ E' hy => h s y ρ E' (List.mem_cons_of_mem _ hy)) q
    exact h s x ρ _ List.mem_cons_self r rfl go go
/-- the invariant may name what is behind and what is ahead -/
theorem for_inv {α : Type} {g : WG} {tb : WS} (enc : α → PyData) (R : List α → En → Prop) : ∀ {xs pre : List α} {ρ : En} {E : WEnds}, R pre ρ →
    (∀ (pre : List α) (x : α) (post : List α) (ρ : En) (E' : WEnds), pre ++ x :: post = pre ++ x :: post → R pre ρ → x ∈ xs → E'.rt = E.rt → (∀ ρ', R (pre ++ [x]) ρ' → E'.nx ρ') → (∀ ρ', R (pre ++ [x]) ρ' → E'.ct ρ') → g (enc x) ρ fun ρ' => tb E' ρ') →
    (∀ ρ', R (pre ++ xs) ρ' → E.nx ρ') → wForL g tb (xs.map enc) E ρ
  | [], pre, ρ, E, r, _, q => q ρ (by rw [List.append_nil]; exact r)
  | x :: xs, pre, ρ, E, r, h, q => by
    rw [List.map_cons]
    show g (enc x) ρ fun ρ' => tb { E with nx := wForL g tb (xs.map enc) E, ct := wForL g tb (xs.map enc) E, bk := E.nx } ρ'
    have go : ∀ ρ', R (pre ++ [x]) ρ' → wForL g tb (xs.map enc) E ρ' := fun ρ' r' => for_inv enc R r' (fun p y po ρ E' e r hy => h p y po ρ E' e r (List.mem_cons_of_mem _ hy)) (fun ρ' r' => q ρ' (by rw [List.append_assoc] at r'; exact r'))
    exact h pre x xs ρ _ rfl r List.mem_cons_self rfl go go
/-! ### tests of mapped lists -/
theorem ints_map {α : Type} (f : α → Int) : ∀ xs : List α, intsD (xs.map fun x => PyData.int (f x)) = some (xs.map f)
  | [] => rfl
  | x :: xs => by
    rw [List.map_cons, List.map_cons]
    show (intsD (xs.map fun x => PyData.int (f x))).map (f x :: ·) = _
    rw [ints_map f xs]
    rfl
theorem bools_map {α : Type} (f : α → Bool) : ∀ xs : List α, boolsD (xs.map fun x => PyData.bool (f x)) = some (xs.map f)
  | [] => rfl
  | x :: xs => by
    rw [List.map_cons, List.map_cons]
    show (boolsD (xs.map fun x => PyData.bool (f x))).map (f x :: ·) = _
    rw [bools_map f xs]
    rfl
theorem rAll_map {α : Type} (f : α → Bool) (xs : List α) {Q : PyData → Prop} (q : Q (.bool (xs.all f))) : rAllD [.list (xs.map fun x => PyData.bool (f x))] Q := by
  show (match boolsD (xs.map fun x => PyData.bool (f x)) with
    | some bs => Q (.bool (bs.all _root_.id))
    | none => False)
  rw [bools_map]
  show Q (.bool ((xs.map f).all _root_.id))
  rw [List.all_map]
  exact q
theorem rAny_map {α : Type} (f : α → Bool) (xs : List α) {Q : PyData → Prop} (q : Q (.bool (xs.any f))) : rAnyD [.list (xs.map fun x => PyData.bool (f x))] Q := by
  show (match boolsD (xs.map fun x => PyData.bool (f x)) with
    | some bs => Q (.bool (bs.any _root_.id))
    | none => False)
  rw [bools_map]
  show Q (.bool ((xs.map f).any _root_.id))
  rw [List.any_map]
  exact q
theorem rng_map (n : Nat) : rngD n = (List.range n).map fun (i : Nat) => PyData.int (i : Int) := rfl
theorem eqv_int (i j : Int) : PyData.eqv (.int i) (.int j) = decide (i = j) := by
  unfold PyData.eqv
  rfl
theorem inD_ints {α : Type} (f : α → Int) (i : Int) : ∀ xs : List α, inD (.int i) (xs.map fun x => PyData.int (f x)) = (xs.map f).contains i
  | [] => rfl
  | x :: xs => by
    have h := inD_ints f i xs
    unfold inD at h ⊢
    rw [List.map_cons, List.any_cons, h, List.map_cons, List.contains_cons, eqv_int]
    congr 1
    by_cases e : f x = i
    · rw [e]
      simp
    · rw [decide_eq_false e, beq_false_of_ne (fun z => e z.symm)]
theorem flat_ints {α : Type} (f : α → Int) (xs : List α) : (xs.map fun x => PyData.int (f x)).all flatD = true := by
  rw [List.all_map]
  exact List.all_eq_true.mpr fun _ _ => rfl
end Qp
set_option maxHeartbeats 2000000
namespace Qp
open PySem PySem.Spec PyProof.Rows L2 Qd
/-! ### fields and terms -/
abbrev nt (i : Nat) : PyData := .int (i : Int)
abbrev npr (x : Nat × Nat) : PyData := .tuple [.int (x.1 : Int), .int (x.2 : Int)]
abbrev ipr (x : Int × Int) : PyData := .tuple [.int x.1, .int x.2]
abbrev nts (l : List Nat) : PyData := .tuple (l.map fun (i : Nat) => .int (i : Int))
abbrev Rel := Nat → Nat → Bool
/-- a field: its size, who is below whom, what was seen -/
structure Fld where
  n : Nat
  lt : Rel
  s : List (Int × Int)
/-- the pairs in their order -/
def tiesL (n : Nat) (p : Rel) : List (Nat × Nat) := (List.range n).flatMap fun i => ((List.range n).filter (p i)).map fun j => (i, j)
def eF (F : Fld) : PyData := .tuple [.int (F.n : Int), .tuple ((tiesL F.n F.lt).map npr), .tuple (F.s.map ipr)]
def eFo : Option Fld → PyData
  | none => .none
  | some F => eF F
def okSeen (x : Int × Int) : Bool := decide (-1000 ≤ x.1) && decide (x.1 ≤ 1000) && decide (1 ≤ x.2) && decide (x.2 ≤ 1000)
structure WF (F : Fld) : Prop where
  n : F.n ≤ 10
  s : F.s.length = F.n
  ok : ∀ x ∈ F.s, okSeen x = true
  rng : ∀ i j, F.lt i j = true → i < F.n ∧ j < F.n
  irr : ∀ i, F.lt i i = false
  tr : ∀ i j k, F.lt i j = true → F.lt j k = true → F.lt i k = true
/-- Warshall's closure -/
def stepW (p : Rel) (k : Nat) : Rel := fun i j => p i j || (p i k && p k j)
def clo : Nat → Rel → Rel
  | 0, p => p
  | n + 1, p => stepW (clo n p) n
/-- what one field is turned by -/
inductive Op
  | row (k : Nat)
  | turned
  | moved (d : Int)
  | times (k : Nat)
  | tied (i j : Nat)
  | only (l : List Nat)
inductive Tm
  | thing (w h : Int)
  | nil
  | dbl (u : Bool) (a b : Tm)
  | one (o : Op) (a : Tm)
def opS : Op → Str
  | .row _ => "row"
  | .turned => "turned"
  | .moved _ => "moved"
  | .times _ => "times"
  | .tied _ _ => "tied"
  | .only _ => "only"
def opA : Op → List PyData
  | .row k => [.int (k : Int)]
  | .turned => []
  | .moved d => [.int d]
  | .times k => [.int (k : Int)]
  | .tied i j => [.int (i : Int), .int (j : Int)]
  | .only l => [nts l]
def eT : Tm → PyData
  | .thing w h => .tuple [.str "thing", .int w, .int h]
  | .nil => .tuple [.str "none"]
  | .dbl u a b => .tuple [.str (if u then "below" else "beside"), eT a, eT b]
  | .one o a => .tuple (.str (opS o) :: eT a :: opA o)
/-- the law's fields -/
def checked (n : Nat) (p : Rel) (s : List (Int × Int)) : Option Fld :=
  if n ≤ 10 ∧ s.all okSeen = true ∧ (List.range n).all (fun i => !(clo n p i i)) = true then some ⟨n, clo n p, s⟩ else none
/-- b: all of A below all of B -/
def relU (A B : Fld) (b : Bool) : Rel := fun i j =>
  if i < A.n then (if j < A.n then A.lt i j else b && decide (j < A.n + B.n)) else if j < A.n then false else B.lt (i - A.n) (j - A.n)
def laidF (A B : Fld) (b : Bool) : Fld := ⟨A.n + B.n, relU A B b, A.s ++ B.s⟩
def two (A B : Fld) (b : Bool) : Option Fld := checked (A.n + B.n) (relU A B b) (A.s ++ B.s)
def flipR (p : Rel) : Rel := fun i j => p j i
def addR (p : Rel) (a b : Nat) : Rel := fun i j => p i j || (decide (i = a) && decide (j = b))
def subR (p : Rel) (l : List Nat) : Rel := fun i j => match l[i]?, l[j]? with
  | some a, some b => p a b
  | _, _ => false
def rowN (A : Fld) : Nat → Option Fld → Option Fld
  | 0, F => F
  | k + 1, F => rowN A k (F.bind fun F => two F A true)
def denO (A : Fld) : Op → Option Fld
  | .row k => rowN A (k - 1) (some A)
  | .turned => checked A.n (flipR A.lt) (A.s.map fun x => (0 - x.1, x.2))
  | .moved d => checked A.n A.lt (A.s.map fun x => (x.1 + d, x.2))
  | .times k => checked A.n A.lt (A.s.map fun x => (x.1, x.2 * (k : Int)))
  | .tied i j => if i < A.n ∧ j < A.n then checked A.n (addR A.lt i j) A.s else none
  | .only l => if l.all (fun i => decide (i < A.n)) = true then checked l.length (subR A.lt l) (l.map fun i => A.s.getD i (0, 0)) else none
def den : Tm → Option Fld
  | .thing w h => some ⟨1, fun _ _ => false, [(w, h)]⟩
  | .nil => some ⟨0, fun _ _ => false, []⟩
  | .dbl u a b => (den a).bind fun A => (den b).bind fun B => two A B u
  | .one o a => (den a).bind fun A => denO A o
def words : Tm → Nat
  | .thing _ _ => 1
  | .nil => 1
  | .dbl _ a b => 1 + words a + words b
  | .one _ a => 1 + words a
def high : Tm → Nat
  | .thing _ _ => 1
  | .nil => 1
  | .dbl _ a b => 1 + max (high a) (high b)
  | .one _ a => 1 + high a
/-- a term's own form -/
def ownO : Op → Prop
  | .row k => 1 ≤ k ∧ k ≤ 10
  | .turned => True
  | .moved d => -2000 ≤ d ∧ d ≤ 2000
  | .times k => 1 ≤ k ∧ k ≤ 1000
  | .tied i j => i ≤ 9 ∧ j ≤ 9 ∧ i ≠ j
  | .only l => (∀ i ∈ l, i ≤ 9) ∧ l.Pairwise (· < ·)
def own1 : Tm → Prop
  | .thing w h => okSeen (w, h) = true
  | .one o _ => ownO o
  | _ => True
def kids : Tm → List Tm
  | .thing _ _ => []
  | .nil => []
  | .dbl _ a b => [a, b]
  | .one _ a => [a]
def form : Tm → Prop
  | .thing w h => okSeen (w, h) = true
  | .nil => True
  | .dbl _ a b => form a ∧ form b
  | .one o a => ownO o ∧ form a
/-- a good term and its field -/
structure Good (t : Tm) (F : Fld) : Prop where
  den : den t = some F
  form : form t
  words : words t ≤ 20
  high : high t ≤ 8
/-! ### tables -/
/-- the gain of a set at the mark a/b, times b -/
def sumN (f : Nat → Int) : Nat → Int
  | 0 => 0
  | n + 1 => sumN f n + f n
def gain (F : Fld) (a b : Int) (U : Nat → Bool) : Int := sumN (fun i => if U i then (F.s.getD i (0, 0)).2 * ((F.s.getD i (0, 0)).1 * b - a) else 0) F.n
def UpS (F : Fld) (U : Nat → Bool) : Prop := ∀ i j, F.lt i j = true → U i = true → U j = true
def atLeast (g : List (Int × Int)) (a b : Int) (i : Nat) : Bool := decide (a * (g.getD i (0, 1)).2 ≤ (g.getD i (0, 1)).1 * b)
structure IsTab (F : Fld) (g : List (Int × Int)) : Prop where
  len : g.length = F.n
  red : ∀ x ∈ g, 0 < x.2 ∧ x.2 ≤ 10000 ∧ Int.gcd x.1 x.2 = 1
  up : ∀ a b, 0 < b → UpS F (atLeast g a b)
  most : ∀ a b, 0 < b → ∀ U, UpS F U → gain F a b U ≤ gain F a b (atLeast g a b) ∧ (gain F a b U = gain F a b (atLeast g a b) → ∀ i, i < F.n → U i = true → atLeast g a b i = true)
def eG (g : List (Int × Int)) : PyData := .tuple (g.map ipr)
end Qp
set_option maxHeartbeats 4000000
namespace Qp
open PySem PySem.Spec PyProof.Rows L2 Qd
/-! ### what the defs answer, on good inputs -/
def memR (l : List (Nat × Nat)) : Rel := fun i j => l.contains (i, j)
def upsD (n : Nat) (p : Rel) : PyData := .list ((List.range n).map fun i => .list (((List.range n).filter (p i)).map nt))
def coversL (p : Rel) (lot : List Nat) : List (Nat × Nat) := lot.flatMap fun a => (lot.filter fun b => p a b && !(lot.any fun c => p a c && p c b)).map fun b => (a, b)
def placesL : Tm → List Nat
  | .thing _ _ => []
  | .nil => []
  | .dbl _ _ _ => [1, 2]
  | .one _ _ => [1]
def pathsL : Tm → List (List Nat)
  | .thing _ _ => [[]]
  | .nil => [[]]
  | .dbl _ a b => [] :: ((pathsL a).map (1 :: ·) ++ (pathsL b).map (2 :: ·))
  | .one _ a => [] :: (pathsL a).map (1 :: ·)
def kidAt : Tm → Nat → Option Tm
  | .dbl _ a _, 1 => some a
  | .dbl _ _ b, 2 => some b
  | .one _ a, 1 => some a
  | _, _ => none
def termAt : Tm → List Nat → Option Tm
  | t, [] => some t
  | t, k :: p => (kidAt t k).bind fun u => termAt u p
def lotsL : Nat → List (List Nat)
  | 0 => [[]]
  | n + 1 => lotsL n ++ (lotsL n).map fun l => l ++ [n]
def isUpL (n : Nat) (p : Rel) (lot : List Nat) : Bool := lot.all fun i => ((List.range n).filter (p i)).all fun j => lot.contains j
def sumH (F : Fld) (lot : List Nat) : Int := (lot.map fun i => (F.s.getD i (0, 0)).2).sum
def sumW (F : Fld) (lot : List Nat) : Int := (lot.map fun i => (F.s.getD i (0, 0)).1 * (F.s.getD i (0, 0)).2).sum
/-- x is the mean, reduced -/
def IsMean (F : Fld) (lot : List Nat) (x : Int × Int) : Prop := (0 < x.2 ∧ x.2 ≤ 10000 ∧ Int.gcd x.1 x.2 = 1) ∧ x.1 * sumH F lot = sumW F lot * x.2
structure LotOk (n : Nat) (lot : List Nat) : Prop where
  lt : ∀ i ∈ lot, i < n
  up : lot.Pairwise (· < ·)
def restL (known lot : List Nat) : List Nat := lot.filter fun i => !(known.contains i)
abbrev Lev := (Int × Int) × List Nat
def eL (x : Lev) : PyData := .tuple [ipr x.1, nts x.2]
/-- x is a next level behind known -/
def IsNext (F : Fld) (some : List (List Nat)) (known : List Nat) (x : Lev) : Prop :=
  (∃ lot ∈ some, x.2 = restL known lot ∧ IsMean F x.2 x.1) ∧ ∀ lot ∈ some, sumW F (restL known lot) * x.1.2 ≤ x.1.1 * sumH F (restL known lot)
/-- the lots that may come next -/
def someL (F : Fld) (L : List (List Nat)) (known : List Nat) : List (List Nat) := L.filter fun lot => decide (known.length < lot.length) && known.all fun i => lot.contains i
def knownL (lv : List Lev) : List Nat := (lv.reverse.map (·.2)).flatten
/-- levels, the newest first -/
def IsLevs (F : Fld) (L : List (List Nat)) : List Lev → Prop
  | [] => True
  | x :: lv => IsLevs F L lv ∧ (knownL lv).length < F.n ∧ IsNext F (someL F L (knownL lv)) (knownL lv) x
def upLots (F : Fld) : List (List Nat) := (lotsL F.n).filter (isUpL F.n F.lt)
def guessL (lv : List Lev) (i : Nat) : Int × Int := match lv.reverse.find? fun x => x.2.contains i with
  | some x => x.1
  | none => (0, 1)
def sp_is_integer : SpB := fun bs Q => ∃ i : Int, bs = [.val (.int i)] ∧ Q (.bool true)
def sp_common : SpB := fun bs Q => ∃ a b : Int, bs = [.val (.int a), .val (.int b)] ∧ Q (.int (Int.gcd a b))
def sp_made : SpB := fun bs Q => ∃ a b : Int, bs = [.val (.int a), .val (.int b)] ∧ 0 < b ∧ b ≤ 10000 ∧ ∀ x : Int × Int, 0 < x.2 → x.2 ≤ b → Int.gcd x.1 x.2 = 1 → x.1 * b = a * x.2 → Q (ipr x)
def sp_is_under : SpB := fun bs Q => ∃ x y : Int × Int, bs = [.val (ipr x), .val (ipr y)] ∧ (0 < x.2 ∧ x.2 ≤ 10000) ∧ (0 < y.2 ∧ y.2 ≤ 10000) ∧ Q (.bool (decide (x.1 * y.2 < y.1 * x.2)))
def sp_is_between : SpB := fun bs Q => ∃ a lo hi : Int, bs = [.val (.int a), .val (.int lo), .val (.int hi)] ∧ Q (.bool (decide (lo ≤ a) && decide (a ≤ hi)))
def sp_are_rising : SpB := fun bs Q => ∃ d, bs = [.val d] ∧ ((∃ l : List Nat, d = nts l ∧ l.length ≤ 1000 ∧ l.Pairwise (· < ·)) ∨ ∃ l : List (Nat × Nat), d = .tuple (l.map npr) ∧ l.length ≤ 1000 ∧ l.Pairwise fun x y => x.1 < y.1 ∨ (x.1 = y.1 ∧ x.2 < y.2)) ∧ Q (.bool true)
def sp_is_pair_below : SpB := fun bs Q => ∃ n i j : Nat, bs = [.val (nt n), .val (npr (i, j))] ∧ i < n ∧ j < n ∧ i ≠ j ∧ Q (.bool true)
def sp_are_ties : SpB := fun bs Q => ∃ F : Fld, WF F ∧ bs = [.val (nt F.n), .val (.tuple ((tiesL F.n F.lt).map npr))] ∧ Q (.bool true)
def sp_ups_by : SpB := fun bs Q => ∃ (n : Nat) (l : List (Nat × Nat)) (d : PyData), n ≤ 10 ∧ (∀ x ∈ l, x.1 < n ∧ x.2 < n) ∧ l.length ≤ 1000 ∧ (d = .tuple (l.map npr) ∨ d = .list (l.map npr)) ∧ bs = [.val (nt n), .val d] ∧ Q (upsD n (clo n (memR l)))
def sp_is_seen : SpB := fun bs Q => ∃ x : Int × Int, okSeen x = true ∧ bs = [.val (ipr x)] ∧ Q (.bool true)
def sp_need_field : SpB := fun bs Q => ∃ F, WF F ∧ bs = [.val (eF F)] ∧ Q (eF F)
def sp_ups_in : SpB := fun bs Q => ∃ F, WF F ∧ bs = [.val (eF F)] ∧ Q (upsD F.n F.lt)
def sp_covers_by : SpB := fun bs Q => ∃ (n : Nat) (p : Rel) (lot : List Nat), n ≤ 10 ∧ LotOk n lot ∧ bs = [.val (upsD n p), .val (nts lot)] ∧ Q (.list ((coversL p lot).map npr))
def sp_is_spot : SpB := fun bs Q => ∃ i : Nat, bs = [.val (nt i)] ∧ i ≤ 9 ∧ Q (.bool true)
def sp_are_spots : SpB := fun bs Q => ∃ l : List Nat, bs = [.val (nts l)] ∧ (∀ i ∈ l, i ≤ 9) ∧ l.Pairwise (· < ·) ∧ Q (.bool true)
def sp_is_own_form : SpB := fun bs Q => ∃ t, bs = [.val (eT t)] ∧ own1 t ∧ Q (.bool true)
def sp_is_form : SpB := fun bs Q => ∃ t, bs = [.val (eT t)] ∧ own1 t ∧ high t ≤ 60 ∧ Q (.bool true)
def sp_places_in : SpB := fun bs Q => ∃ t, bs = [.val (eT t)] ∧ Q (nts (placesL t))
def sp_paths_in : SpB := fun bs Q => ∃ t, bs = [.val (eT t)] ∧ form t ∧ words t ≤ 20 ∧ high t ≤ 8 ∧ Q (.list ((pathsL t).map nts))
def sp_term_at : SpB := fun bs Q => ∃ t p u, bs = [.val (eT t), .val (nts p)] ∧ termAt t p = some u ∧ Q (eT u)
def sp_closed : SpB := fun bs Q => ∃ (n : Nat) (l : List (Nat × Nat)) (d : PyData), n ≤ 10 ∧ (∀ x ∈ l, x.1 < n ∧ x.2 < n) ∧ l.length ≤ 1000 ∧ (d = .tuple (l.map npr) ∨ d = .list (l.map npr)) ∧ bs = [.val (nt n), .val d] ∧ Q (.tuple ((tiesL n (clo n (memR l))).map npr))
def sp_laid : SpB := fun bs Q => ∃ (A B : Fld) (b : Bool), A.n ≤ 10 ∧ B.n ≤ 10 ∧ A.s.length ≤ 1000 ∧ B.s.length ≤ 1000 ∧ bs = [.val (eF A), .val (eF B), .val (.bool b)] ∧ Q (eF (laidF A B b))
def sp_row_of : SpB := fun bs Q => ∃ (A : Fld) (k : Nat) (F : Fld), WF A ∧ 1 ≤ k ∧ k ≤ 10 ∧ rowN A (k - 1) (some A) = some F ∧ bs = [.val (eF A), .val (nt k)] ∧ Q (eF F)
def sp_part_of : SpB := fun bs Q => ∃ (A : Fld) (l : List Nat) (F : Fld), WF A ∧ ownO (.only l) ∧ denO A (.only l) = some F ∧ bs = [.val (eF A), .val (nts l)] ∧ Q (eF F)
def sp_tied_of : SpB := fun bs Q => ∃ (A : Fld) (i j : Nat) (F : Fld), WF A ∧ denO A (.tied i j) = some F ∧ bs = [.val (eF A), .val (nt i), .val (nt j)] ∧ Q (eF F)
def sp_single_of : SpB := fun bs Q => ∃ (o : Op) (a : Tm) (A F : Fld), WF A ∧ ownO o ∧ denO A o = some F ∧ bs = [.val (eT (.one o a)), .val (eF A)] ∧ Q (eF F)
def sp_by_word : SpB := fun bs Q => ∃ (t : Tm) (Fs : List Fld) (F : Fld), own1 t ∧ (kids t).map den = Fs.map some ∧ (∀ A ∈ Fs, WF A) ∧ den t = some F ∧ bs = [.val (eT t), .val (.list (Fs.map eF))] ∧ Q (eF F)
def sp_is_good : SpB := fun bs Q => ∃ F, WF F ∧ bs = [.val (eF F)] ∧ Q (.bool true)
def sp_field_in : SpB := fun bs Q => ∃ t F, Good t F ∧ bs = [.val (eT t)] ∧ Q (eF F)
def sp_need_term : SpB := fun bs Q => ∃ t F, Good t F ∧ bs = [.val (eT t)] ∧ Q (eT t)
def sp_field_of : SpB := fun bs Q => ∃ t F, Good t F ∧ bs = [.val (eT t)] ∧ Q (eF F)
def sp_kids_of : SpB := fun bs Q => ∃ t F, Good t F ∧ bs = [.val (eT t)] ∧ Q (.tuple ((kids t).map eT))
def sp_is_up_in : SpB := fun bs Q => ∃ (n : Nat) (p : Rel) (lot : List Nat), n ≤ 10 ∧ LotOk n lot ∧ bs = [.val (upsD n p), .val (nts lot)] ∧ Q (.bool (isUpL n p lot))
def sp_mean_in : SpB := fun bs Q => ∃ (F : Fld) (lot : List Nat), WF F ∧ LotOk F.n lot ∧ lot ≠ [] ∧ bs = [.val (eF F), .val (nts lot)] ∧ ∀ x, IsMean F lot x → Q (ipr x)
def sp_lots_of : SpB := fun bs Q => ∃ n : Nat, n ≤ 10 ∧ bs = [.val (nt n)] ∧ Q (.list ((lotsL n).map nts))
def sp_up_in : SpB := fun bs Q => ∃ F, WF F ∧ bs = [.val (eF F)] ∧ ∀ L : List (List Nat), L.Perm (upLots F) → Q (.list (L.map nts))
def sp_next_level : SpB := fun bs Q => ∃ (F : Fld) (some : List (List Nat)) (known : List Nat), WF F ∧ some ≠ [] ∧ some.length ≤ 1024 ∧ (∀ lot ∈ some, LotOk F.n lot ∧ restL known lot ≠ []) ∧ bs = [.val (eF F), .val (.list (some.map nts)), .val (.list (known.map nt))] ∧ ∀ x, IsNext F some known x → Q (eL x)
def sp_levels_in : SpB := fun bs Q => ∃ F, WF F ∧ bs = [.val (eF F)] ∧ ∀ lv L, L.Perm (upLots F) → IsLevs F L lv → F.n ≤ (knownL lv).length → Q (.list (lv.map eL))
def sp_table_by : SpB := fun bs Q => ∃ (n : Nat) (lv : List Lev), n ≤ 10 ∧ lv.length ≤ 1000 ∧ (knownL lv).Perm (List.range n) ∧ bs = [.val (.list (lv.map eL))] ∧ Q (eG ((List.range n).map (guessL lv)))
def sp_best_in : SpB := fun bs Q => ∃ F, WF F ∧ bs = [.val (eF F)] ∧ ∀ g, IsTab F g → Q (eG g)
def sp_best_table : SpB := fun bs Q => ∃ F, WF F ∧ bs = [.val (eF F)] ∧ ∀ g, IsTab F g → Q (eG g)
def sp__law_closed : SpB := fun bs Q => ∃ (n : Nat) (l : List (Nat × Nat)), n ≤ 10 ∧ (∀ x ∈ l, x.1 < n ∧ x.2 < n) ∧ l.length ≤ 1000 ∧ bs = [.val (nt n), .val (.list (l.map npr))] ∧ Q (.list ((tiesL n (clo n (memR l))).map npr))
def sp__law_checked : SpB := fun bs Q => ∃ (n : Nat) (l : List (Nat × Nat)) (s : List (Int × Int)) (d : PyData), n ≤ 100 ∧ (∀ x ∈ l, x.1 < n ∧ x.2 < n) ∧ l.length ≤ 1000 ∧ s.length ≤ 1000 ∧ (d = .tuple (s.map ipr) ∨ d = .list (s.map ipr)) ∧ bs = [.val (nt n), .val (.list (l.map npr)), .val d] ∧ Q (eFo (checked n (memR l) s))
def sp__law_two : SpB := fun bs Q => ∃ (A B : Fld) (b : Bool), WF A ∧ WF B ∧ bs = [.val (eF A), .val (eF B), .val (.bool b)] ∧ Q (eFo (two A B b))
def sp__law_one : SpB := fun bs Q => ∃ (o : Op) (a : Tm) (A : Fld), WF A ∧ ownO o ∧ bs = [.val (eT (.one o a)), .val (eF A)] ∧ Q (eFo (denO A o))
def sp__law_put : SpB := fun bs Q => ∃ (t : Tm) (Fs : List Fld), own1 t ∧ (kids t).map den = Fs.map some ∧ (∀ A ∈ Fs, WF A) ∧ bs = [.val (eT t), .val (.list (Fs.map eF))] ∧ Q (eFo (den t))
def sp__law_kids : SpB := fun bs Q => ∃ t, bs = [.val (eT t)] ∧ Q (.tuple ((kids t).map eT))
def sp__law_facts_right : SpB := fun bs Q => ∃ t F u G, Good t F ∧ Good u G ∧ words t + words u ≤ 19 ∧ high t ≤ 7 ∧ high u ≤ 7 ∧ (∀ x ∈ F.s, x.2 ≤ 333) ∧ bs = [.val (eT t), .val (eF F), .val (eT u), .val (eF G)] ∧ Q (.bool true)
def sp__law_term_right : SpB := fun bs Q => ∃ t F, Good t F ∧ bs = [.val (eT t), .val (eF F)] ∧ Q (.bool true)
def sp__law_mixed : SpB := fun _ _ => False
end Qp
set_option maxHeartbeats 4000000
namespace Qp
open PySem PySem.Spec PyProof.Rows L2 Qd
variable {P : Program} {w : World} {K : PySem.W.Frag} {mg : Str → Option Value} {base : Heap}
def sp__law_of : SpN := fun n bs P => ∃ ds : List PyData, bs = [.st, .val (.list ds)] ∧ ds ≠ [] ∧ ds.length < 1000 ∧ n < 2 ^ 61 ∧ ∀ d ∈ ds, P (n + 1) d
abbrev N__law_of : List Str := ["_law_state", "_law_some"]
abbrev s__law_of : Stmt := top 75
theorem sc__law_of : FnScope N__law_of ["_law_state", "_law_some"] (defScope s__law_of) := ⟨rfl, rfl, rfl, by decide +kernel, rfl, by decide +kernel, by decide +kernel⟩
def w__law_of : WSn := (nRet (nOp Qd.rIxD (upE (wVar 1)) (nCall sp__law_draw 2 (nBst 0 (nB (upE (wCallB rLen (wCons (wVar 1) wNil))) nB0)))))
theorem ok__law_of (T : Tx w K mg) {p : StP} {f : Addr} {fd : FuncData} (F : FnP K "_law_of" s__law_of f fd) (hm : mg "_law_of" = some (.ref f)) (C__law_draw : CalN P w K mg base p "_law_draw" 2 2 sp__law_draw) (rd : ∀ n bs Q, sp__law_of n bs Q → w__law_of { nx := fun m _ => Q m .none, rt := Q } n (bs ++ List.replicate (N__law_of.length - bs.length) .no)) : CalN P w K mg base p "_law_of" 3 2 sp__law_of := by
  have sc := sc__law_of
  refine ⟨f, fd, ["_law_state", "_law_some"], fn_b F sc (wb := w__law_of) (fun cdv A outer s H E hr => ?_) rd, hm, F.kp, F.bindsN fun _ _ _ _ _ _ us hl => match us, hl with | [_, _], _ => rfl⟩
  exact (bs_one (bs_ret (be_ix (be_up fun n => (de_var 1)) (be_cal C__law_draw (hr.mono (by omega)) (by rfl) (bb_st 0 (bb_cons (be_up fun n => (de_callB cp_len (by rfl) T.n_len PySem.boot_len (dp_cons (DE.pk (de_var 1)) dp_nil))) bb_nil))) (fun _ _ => rfl))))
abbrev N__law_term : List Str := ["_law_state", "_law_deep", "_law_leaf", "_law_one_here", "_law_mine", "_law_kind", "_law_some", "_law_other", "_law_far", "_law_term_here", "_law_low", "_law_made", "_law_spot"]
abbrev s__law_term : Stmt := top 81
theorem sc__law_term : FnScope N__law_term ["_law_state", "_law_deep"] (defScope s__law_term) := ⟨rfl, rfl, rfl, by decide +kernel, rfl, by decide +kernel, by decide +kernel⟩
def w__law_term (sp : SpN) : WSn := (nSeq (nIfS (nOr (upT (wTst (wOp rEqI (wVar 1) (wC (.int 0))))) (nTst (nOp rEqI (nCall sp__law_draw 2 (nBst 0 (nB (upE (wC (.int 6))) nB0))) (upE (wC (.int 0)))))) (nSeq (nSet 2 (nIf (nTst (nOp rGtI (nCall sp__law_draw 2 (nBst 0 (nB (upE (wC (.int 9))) nB0))) (upE (wC (.int 0))))) (nTup (nCons (upE (wC (.str "thing"))) (nCons (nOp rSubI (nCall sp__law_draw 2 (nBst 0 (nB (upE (wC (.int 19))) nB0))) (upE (wC (.int 9)))) (nCons (nOp rAddI (upE (wC (.int 1))) (nCall sp__law_draw 2 (nBst 0 (nB (upE (wC (.int 4))) nB0)))) nNil)))) (upE (wTup (wCons (wC (.str "none")) wNil)))))
  (upS (wRet (wTup (wCons (wVar 2) (wCons (wCall sp__law_put 2 (wB (wVar 2) (wB (wFz (wLst wNil)) wB0))) wNil)))))) (upS wNext))
  (nSeq (nAsg (nCall sp 2 (nBst 0 (nB (upE (wOp rSubI (wVar 1) (wC (.int 1)))) nB0))) (wgTup 2 (wgCons (wgName 3) (wgCons (wgName 4) wgNil))))
  (nSeq (nSet 5 (nCall sp__law_draw 2 (nBst 0 (nB (upE (wC (.int 9))) nB0))))
  (nSeq (upS (wSet 6 (wFz (wLst (wCons (wVar 4) wNil)))))
  (nSeq (nIfS (upT (wTst (wOp rLtI (wVar 5) (wC (.int 4))))) (nSeq (nAsg (nCall sp 2 (nBst 0 (nB (upE (wOp rSubI (wVar 1) (wC (.int 1)))) nB0))) (wgTup 2 (wgCons (wgName 7) (wgCons (wgName 8) wgNil))))
  (upS (wPar 9 6 (wTup (wCons (wOp rIxD (wFz (wLst (wCons (wC (.str "beside")) (wCons (wC (.str "below")) wNil)))) (wOp rModI (wCallB rInt (wCons (wVar 5) wNil)) (wC (.int 2)))) (wCons (wVar 3) (wCons (wVar 7) wNil)))) (wFz (wLst (wCons (wVar 4) (wCons (wVar 8) wNil))))))) (nIfS (upT (wTst (wOp rEqI (wVar 5) (wC (.int 4))))) (nSet 9 (nTup (nCons (upE (wC (.str "row"))) (nCons (upE (wVar 3)) (nCons (nOp rAddI (upE (wC (.int 1))) (nCall sp__law_draw 2 (nBst 0 (nB (upE (wC (.int 3))) nB0)))) nNil))))) (nIfS (upT (wTst (wOp rEqI (wVar 5) (wC (.int 5))))) (nSet 9 (nCall sp__law_of 2 (nBst 0 (nB (nLst (nCons (upE (wTup (wCons (wC (.str "turned")) (wCons (wVar 3) wNil)))) (nCons (nTup (nCons (upE (wC (.str "moved"))) (nCons (upE (wVar 3)) (nCons (nOp rSubI (nCall sp__law_draw 2 (nBst 0 (nB (upE (wC (.int 41))) nB0))) (upE (wC (.int 20)))) nNil)))) nNil))) nB0)))) (nIfS (upT (wTst (wOp rEqI (wVar 5) (wC (.int 6))))) (nSet 9 (nTup (nCons (upE (wC (.str "times"))) (nCons (upE (wVar 3)) (nCons (nOp rAddI (upE (wC (.int 1))) (nCall sp__law_draw 2 (nBst 0 (nB (upE (wC (.int 5))) nB0)))) nNil))))) (nIfS (upT (wTst (wOp rEqI (wVar 5) (wC (.int 7))))) (nSeq (nSet 10 (nCall sp__law_draw 2 (nBst 0 (nB (upE (wC (.int 6))) nB0))))
  (nSet 9 (nTup (nCons (upE (wC (.str "tied"))) (nCons (upE (wVar 3)) (nCons (upE (wVar 10)) (nCons (nOp rModI (nCallB rInt (nCons (nOp rAddI (upE (wOp rAddI (wVar 10) (wC (.int 1)))) (nCall sp__law_draw 2 (nBst 0 (nB (upE (wC (.int 5))) nB0)))) nNil)) (upE (wC (.int 6)))) nNil))))))) (nSet 9 (nTup (nCons (upE (wC (.str "only"))) (nCons (upE (wVar 3)) (nCons (nCallB rTupD (nCons (nFz (nLc (nRng (upE (wOp rIxD (wVar 4) (wC (.int 0))))) (wgName 12) (nTst (nOp rGtI (nCall sp__law_draw 2 (nBst 0 (nB (upE (wC (.int 3))) nB0))) (upE (wC (.int 0))))) (wVar 12) [12])) nNil)) nNil))))))))))
  (upS (wSeq (wSet 11 (wCall sp__law_put 2 (wB (wVar 9) (wB (wVar 6) wB0))))
  (wRet (wIf (wTst (wOp rNotN (wVar 11) (wC .none))) (wTup (wCons (wVar 9) (wCons (wVar 11) wNil))) (wTup (wCons (wVar 3) (wCons (wVar 4) wNil))))))))))))
theorem ok__law_term (T : Tx w K mg) {p : StP} {f : Addr} {fd : FuncData} {kk : Nat} {sp sp' : SpN} (hk : 5 ≤ kk) (F : FnP K "_law_term" s__law_term f fd) (hm : mg "_law_term" = some (.ref f)) (C__law_draw : CalN P w K mg base p "_law_draw" 2 2 sp__law_draw) (C__law_of : CalN P w K mg base p "_law_of" 3 2 sp__law_of) (C__law_put : ∀ n, Cal P w K mg base (Wp p n) "_law_put" 5 2 sp__law_put) (C__law_term : CalN P w K mg base p "_law_term" kk 2 sp) (rd : ∀ n bs Q, sp' n bs Q → w__law_term sp { nx := fun m _ => Q m .none, rt := Q } n (bs ++ List.replicate (N__law_term.length - bs.length) .no)) : CalN P w K mg base p "_law_term" (kk + 1) 2 sp' := by
  have sc := sc__law_term
  refine ⟨f, fd, ["_law_state", "_law_deep"], fn_b F sc (wb := w__law_term sp) (fun cdv A outer s H E hr => ?_) rd, hm, F.kp, F.bindsN fun _ _ _ _ _ _ us hl => match us, hl with | [_, _], _ => rfl⟩
  exact (bs_cons (bs_if (PW.pt (bw_or (bt_up fun n => (dt_cmp od_eqI (de_var 1) de_int (nomark _))) (bw_or1 (bt_cmp (fun _ => od_eqI) (be_cal C__law_draw (hr.mono (by omega)) (by rfl) (bb_st 0 (bb_cons (be_up fun n => de_int) bb_nil))) (be_up fun n => de_int) (nomark _))))) (bs_cons (bs_set (i := 2) sc.nd rfl (by first | exact Or.inl rfl | exact Or.inr rfl) (be_if (bt_cmp (fun _ => od_gt) (be_cal C__law_draw (hr.mono (by omega)) (by rfl) (bb_st 0 (bb_cons (be_up fun n => de_int) bb_nil))) (be_up fun n => de_int) (nomark _)) (be_tup (ba_cons (be_up fun n => de_str) (ba_cons (be_bin (fun _ => od_sub) (be_cal C__law_draw (hr.mono (by omega)) (by rfl) (bb_st 0 (bb_cons (be_up fun n => de_int) bb_nil))) (be_up fun n => de_int)) (ba_cons (be_bin (fun _ => od_add) (be_up fun n => de_int) (be_cal C__law_draw (hr.mono (by omega)) (by rfl) (bb_st 0 (bb_cons (be_up fun n => de_int) bb_nil)))) ba_nil)))) (be_up fun n => (de_tup (da_cons de_str da_nil)))))
    (bss_up fun n => (ds_one (ds_ret (de_tup (da_cons (de_var 2) (da_cons (de_cal (C__law_put n) (hr.mono (by omega)) (by rfl) (db_cons (de_var 2) (db_cons (DF.de (df_lst da_nil)) db_nil))) da_nil))))))) (bss_up fun n => ds_nil))
    (bs_cons (bs_asg (be_cal C__law_term (hr.mono (by omega)) (by rfl) (bb_st 0 (bb_cons (be_up fun n => (de_bin od_sub (de_var 1) de_int)) bb_nil))) (fun _ => (dg_tup rfl (dgs_cons (dg_name (i := 3) sc.nd rfl (by first | exact Or.inl rfl | exact Or.inr rfl)) (dgs_cons (dg_name (i := 4) sc.nd rfl (by first | exact Or.inl rfl | exact Or.inr rfl)) dgs_nil)))))
    (bs_cons (bs_set (i := 5) sc.nd rfl (by first | exact Or.inl rfl | exact Or.inr rfl) (be_cal C__law_draw (hr.mono (by omega)) (by rfl) (bb_st 0 (bb_cons (be_up fun n => de_int) bb_nil))))
    (bs_cons (bs_up fun n => (ds_set (i := 6) sc.nd rfl (by first | exact Or.inl rfl | exact Or.inr rfl) (DF.de (df_lst (da_cons (de_var 4) da_nil)))))
    (bs_cons (bs_if (bt_up fun n => (dt_cmp (od_lt) (de_var 5) de_int (nomark _))) (bs_cons (bs_asg (be_cal C__law_term (hr.mono (by omega)) (by rfl) (bb_st 0 (bb_cons (be_up fun n => (de_bin od_sub (de_var 1) de_int)) bb_nil))) (fun _ => (dg_tup rfl (dgs_cons (dg_name (i := 7) sc.nd rfl (by first | exact Or.inl rfl | exact Or.inr rfl)) (dgs_cons (dg_name (i := 8) sc.nd rfl (by first | exact Or.inl rfl | exact Or.inr rfl)) dgs_nil)))))
    (bss_up fun n => (ds_one (ds_par (i := 9) (j := 6) rfl sc.nd rfl rfl (by decide) rfl rfl (de_tup (da_cons (de_ix (DE.pk (DF.de (df_lst (da_cons de_str (da_cons de_str da_nil))))) (de_bin od_mod (de_callT cp_int (by rfl) T.n_int PyProof.Rows.boot_int (dp_cons (DE.pk (de_var 5)) dp_nil)) de_int) (fun _ _ => rfl)) (da_cons (de_var 3) (da_cons (de_var 7) da_nil)))) (DF.de (df_lst (da_cons (de_var 4) (da_cons (de_var 8) da_nil)))) (by rfl))))) (bs_one (bs_if (bt_up fun n => (dt_cmp od_eqI (de_var 5) de_int (nomark _))) (bs_one (bs_set (i := 9) sc.nd rfl (by first | exact Or.inl rfl | exact Or.inr rfl) (be_tup (ba_cons (be_up fun n => de_str) (ba_cons (be_up fun n => (de_var 3)) (ba_cons (be_bin (fun _ => od_add) (be_up fun n => de_int) (be_cal C__law_draw (hr.mono (by omega)) (by rfl) (bb_st 0 (bb_cons (be_up fun n => de_int) bb_nil)))) ba_nil)))))) (bs_one (bs_if (bt_up fun n => (dt_cmp od_eqI (de_var 5) de_int (nomark _))) (bs_one (bs_set (i := 9) sc.nd rfl (by first | exact Or.inl rfl | exact Or.inr rfl) (be_cal C__law_of (hr.mono (by omega)) (by rfl) (bb_st 0 (bb_cons (be_lst (ba_cons (be_up fun n => (de_tup (da_cons de_str (da_cons (de_var 3) da_nil)))) (ba_cons (be_tup (ba_cons (be_up fun n => de_str) (ba_cons (be_up fun n => (de_var 3)) (ba_cons (be_bin (fun _ => od_sub) (be_cal C__law_draw (hr.mono (by omega)) (by rfl) (bb_st 0 (bb_cons (be_up fun n => de_int) bb_nil))) (be_up fun n => de_int)) ba_nil)))) ba_nil))) bb_nil))))) (bs_one (bs_if (bt_up fun n => (dt_cmp od_eqI (de_var 5) de_int (nomark _))) (bs_one (bs_set (i := 9) sc.nd rfl (by first | exact Or.inl rfl | exact Or.inr rfl) (be_tup (ba_cons (be_up fun n => de_str) (ba_cons (be_up fun n => (de_var 3)) (ba_cons (be_bin (fun _ => od_add) (be_up fun n => de_int) (be_cal C__law_draw (hr.mono (by omega)) (by rfl) (bb_st 0 (bb_cons (be_up fun n => de_int) bb_nil)))) ba_nil)))))) (bs_one (bs_if (bt_up fun n => (dt_cmp od_eqI (de_var 5) de_int (nomark _))) (bs_cons (bs_set (i := 10) sc.nd rfl (by first | exact Or.inl rfl | exact Or.inr rfl) (be_cal C__law_draw (hr.mono (by omega)) (by rfl) (bb_st 0 (bb_cons (be_up fun n => de_int) bb_nil))))
    (bs_one (bs_set (i := 9) sc.nd rfl (by first | exact Or.inl rfl | exact Or.inr rfl) (be_tup (ba_cons (be_up fun n => de_str) (ba_cons (be_up fun n => (de_var 3)) (ba_cons (be_up fun n => (de_var 10)) (ba_cons (be_bin (fun _ => od_mod) (be_callT (fun _ => cp_int) (by rfl) T.n_int PyProof.Rows.boot_int (ba_cons (be_bin (fun _ => od_add) (be_up fun n => (de_bin od_add (de_var 10) de_int)) (be_cal C__law_draw (hr.mono (by omega)) (by rfl) (bb_st 0 (bb_cons (be_up fun n => de_int) bb_nil)))) ba_nil)) (be_up fun n => de_int)) ba_nil)))))))) (bs_one (bs_set (i := 9) sc.nd rfl (by first | exact Or.inl rfl | exact Or.inr rfl) (be_tup (ba_cons (be_up fun n => de_str) (ba_cons (be_up fun n => (de_var 3)) (ba_cons (be_callT (fun _ => cp_tuple) (by rfl) T.n_tuple PyProof.Rows.boot_tuple (ba_cons (BF.be (bf_lc (own := [("_law_spot", 12)]) rfl sc.nd (bi_rng (be_up fun n => (de_ix (DE.pk (de_var 4)) de_int (fun _ _ => rfl))) (by rfl) T.n_range) (blkOk_by (sc := defScope s__law_term) (own := [("_law_spot", 12)]) (N := N__law_term) (by decide +kernel)) (fun _ _ _ _ _ _ => (dg_name (i := 12) sc.nd rfl (by first | exact Or.inl rfl | exact Or.inr rfl))) (fun _ _ _ _ _ => (bt_cmp (fun _ => od_gt) (be_cal C__law_draw (hr.mono (by omega)) (by rfl) (bb_st 0 (bb_cons (be_up fun n => de_int) bb_nil))) (be_up fun n => de_int) (nomark _))) (fun _ _ _ _ _ _ => (de_var 12)))) ba_nil)) ba_nil)))))))))))))))
    (bss_up fun n => (ds_cons (ds_set (i := 11) sc.nd rfl (by first | exact Or.inl rfl | exact Or.inr rfl) (de_cal (C__law_put n) (hr.mono (by omega)) (by rfl) (db_cons (de_var 9) (db_cons (de_var 6) db_nil))))
    (ds_one (ds_ret (de_if (dt_cmp od_notN (de_var 11) de_non (nomark _)) (de_tup (da_cons (de_var 9) (da_cons (de_var 11) da_nil))) (de_tup (da_cons (de_var 3) (da_cons (de_var 4) da_nil)))))))))))))
abbrev N_law : List Str := ["_law_script", "_law_state", "_law_turn", "_law_term_here", "_law_made", "_law_near", "_law_mine", "_law_other", "_law_yours", "_law_one_here", "_law_ten", "_law_zed", "_law_wide", "_law_deep", "_law_some", "_law_chain", "_law_low"]
abbrev s_law : Stmt := top 85
theorem sc_law : FnScope N_law ["_law_script"] (defScope s_law) := ⟨rfl, rfl, rfl, by decide +kernel, rfl, by decide +kernel, by decide +kernel⟩
def w_lawR (sp : SpN) : WSn := (upS (wSeq (wSet 9 (wTup (wCons (wC (.str "thing")) (wCons (wUn rNegD (wC (.int 1000))) (wCons (wC (.int 1000)) wNil)))))
  (wSeq (wSet 10 (wTup (wCons (wC (.int 10)) (wCons (wCallB rTupD (wCons (wCall sp__law_closed 2 (wB (wC (.int 10)) (wB (wFz (wLc (wRng (wC (.int 9))) (wgName 16) wYes (wTup (wCons (wVar 16) (wCons (wOp rAddI (wVar 16) (wC (.int 1))) wNil))) [16])) wB0))) wNil)) (wCons (wOp rMulT (wTup (wCons (wTup (wCons (wUn rNegD (wC (.int 1000))) (wCons (wC (.int 1000)) wNil))) wNil)) (wC (.int 10))) wNil)))))
  (wSeq (wSet 11 (wTup (wCons (wC (.str "tied")) (wCons (wTup (wCons (wC (.str "beside")) (wCons (wTup (wCons (wC (.str "below")) (wCons (wVar 9) (wCons (wVar 9) wNil)))) (wCons (wTup (wCons (wC (.str "below")) (wCons (wVar 9) (wCons (wVar 9) wNil)))) wNil)))) (wCons (wC (.int 0)) (wCons (wC (.int 3)) wNil))))))
  (wSeq (wSet 12 (wTup (wCons (wC (.str "only")) (wCons (wTup (wCons (wC (.str "row")) (wCons (wVar 9) (wCons (wC (.int 10)) wNil)))) (wCons (wTup (wCons (wC (.int 0)) (wCons (wC (.int 4)) (wCons (wC (.int 9)) wNil)))) wNil)))))
  (wSeq (wSet 13 (wTup (wCons (wC (.str "turned")) (wCons (wTup (wCons (wC (.str "turned")) (wCons (wTup (wCons (wC (.str "turned")) (wCons (wTup (wCons (wC (.str "turned")) (wCons (wTup (wCons (wC (.str "turned")) (wCons (wTup (wCons (wC (.str "turned")) (wCons (wTup (wCons (wC (.str "turned")) (wCons (wTup (wCons (wC (.str "thing")) (wCons (wC (.int 5)) (wCons (wC (.int 1)) wNil)))) wNil))) wNil))) wNil))) wNil))) wNil))) wNil))) wNil))))
  (wSeq (wSetO 14 (wLst (wCons (wTup (wCons (wTup (wCons (wC (.str "row")) (wCons (wVar 9) (wCons (wC (.int 10)) wNil)))) (wCons (wVar 10) wNil))) (wCons (wTup (wCons (wVar 11) (wCons (wTup (wCons (wC (.int 4)) (wCons (wTup (wCons (wTup (wCons (wC (.int 0)) (wCons (wC (.int 1)) wNil))) (wCons (wTup (wCons (wC (.int 0)) (wCons (wC (.int 3)) wNil))) (wCons (wTup (wCons (wC (.int 2)) (wCons (wC (.int 3)) wNil))) wNil)))) (wCons (wOp rMulT (wTup (wCons (wTup (wCons (wUn rNegD (wC (.int 1000))) (wCons (wC (.int 1000)) wNil))) wNil)) (wC (.int 4))) wNil)))) wNil))) wNil))))
  (wSeq (wApp 14 (wTup (wCons (wVar 13) (wCons (wTup (wCons (wC (.int 1)) (wCons (wTup wNil) (wCons (wTup (wCons (wTup (wCons (wUn rNegD (wC (.int 5))) (wCons (wC (.int 1)) wNil))) wNil)) wNil)))) wNil))))
  (wSeq (wSetO 14 (wCat (wPk 14) (wFz (wLst (wCons (wTup (wCons (wVar 12) (wCons (wTup (wCons (wC (.int 3)) (wCons (wTup (wCons (wTup (wCons (wC (.int 0)) (wCons (wC (.int 1)) wNil))) (wCons (wTup (wCons (wC (.int 0)) (wCons (wC (.int 2)) wNil))) (wCons (wTup (wCons (wC (.int 1)) (wCons (wC (.int 2)) wNil))) wNil)))) (wCons (wOp rMulT (wTup (wCons (wTup (wCons (wUn rNegD (wC (.int 1000))) (wCons (wC (.int 1000)) wNil))) wNil)) (wC (.int 3))) wNil)))) wNil))) (wCons (wTup (wCons (wTup (wCons (wC (.str "row")) (wCons (wTup (wCons (wC (.str "none")) wNil)) (wCons (wC (.int 10)) wNil)))) (wCons (wTup (wCons (wC (.int 0)) (wCons (wTup wNil) (wCons (wTup wNil) wNil)))) wNil))) wNil))))))
  (wSeq (wApp 14 (wTup (wCons (wTup (wCons (wC (.str "moved")) (wCons (wVar 9) (wCons (wC (.int 2000)) wNil)))) (wCons (wTup (wCons (wC (.int 1)) (wCons (wTup wNil) (wCons (wTup (wCons (wTup (wCons (wC (.int 1000)) (wCons (wC (.int 1000)) wNil))) wNil)) wNil)))) wNil))))
  (wSeq (wSet 15 (wTup (wCons (wC (.str "tied")) (wCons (wOp rIxD (wVar 11) (wC (.int 1))) (wCons (wC (.int 1)) (wCons (wC (.int 2)) wNil))))))
  (wSeq (wApp 14 (wTup (wCons (wVar 15) (wCons (wTup (wCons (wC (.int 4)) (wCons (wTup (wCons (wTup (wCons (wC (.int 0)) (wCons (wC (.int 1)) wNil))) (wCons (wTup (wCons (wC (.int 0)) (wCons (wC (.int 2)) wNil))) (wCons (wTup (wCons (wC (.int 0)) (wCons (wC (.int 3)) wNil))) (wCons (wTup (wCons (wC (.int 1)) (wCons (wC (.int 2)) wNil))) (wCons (wTup (wCons (wC (.int 1)) (wCons (wC (.int 3)) wNil))) (wCons (wTup (wCons (wC (.int 2)) (wCons (wC (.int 3)) wNil))) wNil))))))) (wCons (wOp rMulT (wTup (wCons (wTup (wCons (wUn rNegD (wC (.int 1000))) (wCons (wC (.int 1000)) wNil))) wNil)) (wC (.int 4))) wNil)))) wNil))))
  (wFrz 14 (wRet (wOp rEqD (wFz (wLc (wSeqI (wVar 14)) (wgTup 2 (wgCons (wgName 3) (wgCons (wgName 4) wgNil))) (wNot (wTst (wCall sp__law_term_right 2 (wB (wVar 3) (wB (wVar 4) wB0))))) (wC (.int 1)) [3, 4])) (wFz (wLst wNil)))))))))))))))))
def w_law (sp : SpN) : WSn := (nSeq (nAsg (nCall sp 2 (nBst 1 (nB (upE (wC (.int 3))) nB0))) (wgTup 2 (wgCons (wgName 3) (wgCons (wgName 4) wgNil))))
  (nSeq (nAsg (nCall sp 2 (nBst 1 (nB (upE (wC (.int 2))) nB0))) (wgTup 2 (wgCons (wgName 5) (wgCons (wgName 6) wgNil))))
  (nSeq (nAsg (nCall sp 2 (nBst 1 (nB (upE (wC (.int 2))) nB0))) (wgTup 2 (wgCons (wgName 7) (wgCons (wgName 8) wgNil))))
  (upS (wIfS (wOr (wNot (wTst (wCall sp__law_term_right 2 (wB (wVar 3) (wB (wVar 4) wB0))))) (wNot (wTst (wCall sp__law_facts_right 4 (wB (wVar 5) (wB (wVar 6) (wB (wVar 7) (wB (wVar 8) wB0)))))))) (wRet (wC (.bool false))) wNext)))))
theorem ss_law (T : Tx w K mg) {tb : Addr} {q : Str} {f : Addr} {sp : SpN} {cdv : Value} {A : Around} {outer : List Env} {s : Shared} {H H0 : Hp} {E : XK} {d cl lf : Addr} (hgu : A.guards = some []) (hr : Room 11 (A.deeper (envOfC "law" (defScope s_law) s.heap.objs.size f cdv))) (C__law_term : CalN P w K mg base ⟨tb, d, cl, lf, q⟩ "_law_term" 9 2 sp)
    (C__law_facts_right : ∀ n, Cal P w K mg base (Wp ⟨tb, d, cl, lf, q⟩ n) "_law_facts_right" 10 4 sp__law_facts_right) (C__law_term_right : ∀ n, CalG P w K mg base (Wp ⟨tb, d, cl, lf, q⟩ n) "_law_term_right" 11 2 sp__law_term_right) (C__law_closed : ∀ n, Cal P w K mg base (Wp ⟨tb, d, cl, lf, q⟩ n) "_law_closed" 1 2 sp__law_closed) :
    PSs (cxOf CX0 P w K mg base N_law "law" (defScope s_law) f cdv A outer s H E).nox ((defBody s_law).drop 1) (tLaw K ⟨tb, d, cl, lf, q⟩ H0 (w_law sp) (w_lawR sp)) := by
  have sc := sc_law
  have hu64 := hr.units
  have h2 : BSs ⟨tb, d, cl, lf, q⟩ H0 (cxOf CX0 P w K mg base N_law "law" (defScope s_law) f cdv A outer s H E).nox ((defBody s_law).drop 2) (w_lawR sp) := (bss_up fun n => (ds_cons (ds_set (i := 9) sc.nd rfl (by first | exact Or.inl rfl | exact Or.inr rfl) (de_tup (da_cons de_str (da_cons (de_neg de_int) (da_cons de_int da_nil)))))
    (ds_cons (ds_set (i := 10) sc.nd rfl (by first | exact Or.inl rfl | exact Or.inr rfl) (de_tup (da_cons de_int (da_cons (de_callT cp_tuple (by rfl) T.n_tuple PyProof.Rows.boot_tuple (dp_cons (DE.pk (de_cal (C__law_closed n) (hr.mono (by decide)) (by rfl) (db_cons de_int (db_cons (DF.de (df_lc (own := [("_law_low", 16)]) rfl sc.nd (di_rng de_int (by rfl) T.n_range) (blkOk_by (sc := defScope s_law) (own := [("_law_low", 16)]) (N := N_law) (by decide +kernel)) (fun _ _ _ _ _ => (dg_name (i := 16) sc.nd rfl (by first | exact Or.inl rfl | exact Or.inr rfl))) (fun _ _ _ _ _ => dts_nil) (fun _ _ _ _ _ => (de_tup (da_cons (de_var 16) (da_cons (de_bin od_add (de_var 16) de_int) da_nil)))))) db_nil)))) dp_nil)) (da_cons (de_bin od_mulT (de_tup (da_cons (de_tup (da_cons (de_neg de_int) (da_cons de_int da_nil))) da_nil)) de_int) da_nil)))))
    (ds_cons (ds_set (i := 11) sc.nd rfl (by first | exact Or.inl rfl | exact Or.inr rfl) (de_tup (da_cons de_str (da_cons (de_tup (da_cons de_str (da_cons (de_tup (da_cons de_str (da_cons (de_var 9) (da_cons (de_var 9) da_nil)))) (da_cons (de_tup (da_cons de_str (da_cons (de_var 9) (da_cons (de_var 9) da_nil)))) da_nil)))) (da_cons de_int (da_cons de_int da_nil))))))
    (ds_cons (ds_set (i := 12) sc.nd rfl (by first | exact Or.inl rfl | exact Or.inr rfl) (de_tup (da_cons de_str (da_cons (de_tup (da_cons de_str (da_cons (de_var 9) (da_cons de_int da_nil)))) (da_cons (de_tup (da_cons de_int (da_cons de_int (da_cons de_int da_nil)))) da_nil)))))
    (ds_cons (ds_set (i := 13) sc.nd rfl (by first | exact Or.inl rfl | exact Or.inr rfl) (de_tup (da_cons de_str (da_cons (de_tup (da_cons de_str (da_cons (de_tup (da_cons de_str (da_cons (de_tup (da_cons de_str (da_cons (de_tup (da_cons de_str (da_cons (de_tup (da_cons de_str (da_cons (de_tup (da_cons de_str (da_cons (de_tup (da_cons de_str (da_cons de_int (da_cons de_int da_nil)))) da_nil))) da_nil))) da_nil))) da_nil))) da_nil))) da_nil))) da_nil))))
    (ds_cons (ds_setO (i := 14) sc.nd rfl (by first | exact Or.inl rfl | exact Or.inr rfl) (df_lst (da_cons (de_tup (da_cons (de_tup (da_cons de_str (da_cons (de_var 9) (da_cons de_int da_nil)))) (da_cons (de_var 10) da_nil))) (da_cons (de_tup (da_cons (de_var 11) (da_cons (de_tup (da_cons de_int (da_cons (de_tup (da_cons (de_tup (da_cons de_int (da_cons de_int da_nil))) (da_cons (de_tup (da_cons de_int (da_cons de_int da_nil))) (da_cons (de_tup (da_cons de_int (da_cons de_int da_nil))) da_nil)))) (da_cons (de_bin od_mulT (de_tup (da_cons (de_tup (da_cons (de_neg de_int) (da_cons de_int da_nil))) da_nil)) de_int) da_nil)))) da_nil))) da_nil))))
    (ds_cons (ds_app 14 (de_tup (da_cons (de_var 13) (da_cons (de_tup (da_cons de_int (da_cons (de_tup da_nil) (da_cons (de_tup (da_cons (de_tup (da_cons (de_neg de_int) (da_cons de_int da_nil))) da_nil)) da_nil)))) da_nil))))
    (ds_cons (ds_setO (i := 14) sc.nd rfl (by first | exact Or.inl rfl | exact Or.inr rfl) (df_cat (dk_var 14) (DE.pk (DF.de (df_lst (da_cons (de_tup (da_cons (de_var 12) (da_cons (de_tup (da_cons de_int (da_cons (de_tup (da_cons (de_tup (da_cons de_int (da_cons de_int da_nil))) (da_cons (de_tup (da_cons de_int (da_cons de_int da_nil))) (da_cons (de_tup (da_cons de_int (da_cons de_int da_nil))) da_nil)))) (da_cons (de_bin od_mulT (de_tup (da_cons (de_tup (da_cons (de_neg de_int) (da_cons de_int da_nil))) da_nil)) de_int) da_nil)))) da_nil))) (da_cons (de_tup (da_cons (de_tup (da_cons de_str (da_cons (de_tup (da_cons de_str da_nil)) (da_cons de_int da_nil)))) (da_cons (de_tup (da_cons de_int (da_cons (de_tup da_nil) (da_cons (de_tup da_nil) da_nil)))) da_nil))) da_nil)))))))
    (ds_cons (ds_app 14 (de_tup (da_cons (de_tup (da_cons de_str (da_cons (de_var 9) (da_cons de_int da_nil)))) (da_cons (de_tup (da_cons de_int (da_cons (de_tup da_nil) (da_cons (de_tup (da_cons (de_tup (da_cons de_int (da_cons de_int da_nil))) da_nil)) da_nil)))) da_nil))))
    (ds_cons (ds_set (i := 15) sc.nd rfl (by first | exact Or.inl rfl | exact Or.inr rfl) (de_tup (da_cons de_str (da_cons (de_ix (DE.pk (de_var 11)) de_int (fun _ _ => rfl)) (da_cons de_int (da_cons de_int da_nil))))))
    (ds_cons (ds_app 14 (de_tup (da_cons (de_var 15) (da_cons (de_tup (da_cons de_int (da_cons (de_tup (da_cons (de_tup (da_cons de_int (da_cons de_int da_nil))) (da_cons (de_tup (da_cons de_int (da_cons de_int da_nil))) (da_cons (de_tup (da_cons de_int (da_cons de_int da_nil))) (da_cons (de_tup (da_cons de_int (da_cons de_int da_nil))) (da_cons (de_tup (da_cons de_int (da_cons de_int da_nil))) (da_cons (de_tup (da_cons de_int (da_cons de_int da_nil))) da_nil))))))) (da_cons (de_bin od_mulT (de_tup (da_cons (de_tup (da_cons (de_neg de_int) (da_cons de_int da_nil))) da_nil)) de_int) da_nil)))) da_nil))))
    (ds_one (ds_frz 14 (ds_ret (de_cmpP (op_eqP hu64) (DE.pk (DF.de (df_lc (own := [("_law_term_here", 3), ("_law_made", 4)]) rfl sc.nd (di_seq (de_var 14)) (blkOk_by (sc := defScope s_law) (own := [("_law_term_here", 3), ("_law_made", 4)]) (N := N_law) (by decide +kernel)) (fun _ _ _ _ _ => (dg_tup rfl (dgs_cons (dg_name (i := 3) sc.nd rfl (by first | exact Or.inl rfl | exact Or.inr rfl)) (dgs_cons (dg_name (i := 4) sc.nd rfl (by first | exact Or.inl rfl | exact Or.inr rfl)) dgs_nil)))) (fun _ _ _ _ _ => (dts_one (dt_not (dt_val (de_calG (C__law_term_right n) hgu (hr.mono (by decide)) (by rfl) (db_cons (de_var 3) (db_cons (de_var 4) db_nil))))))) (fun _ _ _ _ _ => de_int)))) (DE.pk (DF.de (df_lst da_nil))) (nomark _)))))))))))))))))
  refine pss_weak (pss_cons (bs_forX (p := ⟨tb, d, cl, lf, q⟩) (H0 := H0) (g := wgName 2) (w := w_law sp) PassesOwn.never rfl (pi_range1 (by rfl) T.n_range (pa_cons (pe_op op_add pe_int (pe_callB (call_min2 rfl) (by rfl) T.n_min PyProof.Rows.boot_min (pa_cons (pe_callB call_len (by rfl) T.n_len PySem.boot_len (pa_cons (pv 0) pa_nil)) (pa_cons pe_int pa_nil)))) pa_nil)) (fun n => (dg_name (i := 2) sc.nd rfl (by first | exact Or.inl rfl | exact Or.inr rfl)))
    (bs_cons (bs_asg (be_cal C__law_term (hr.mono (by omega)) (by rfl) (bb_st 1 (bb_cons (be_up fun n => de_int) bb_nil))) (fun _ => (dg_tup rfl (dgs_cons (dg_name (i := 3) sc.nd rfl (by first | exact Or.inl rfl | exact Or.inr rfl)) (dgs_cons (dg_name (i := 4) sc.nd rfl (by first | exact Or.inl rfl | exact Or.inr rfl)) dgs_nil)))))
    (bs_cons (bs_asg (be_cal C__law_term (hr.mono (by omega)) (by rfl) (bb_st 1 (bb_cons (be_up fun n => de_int) bb_nil))) (fun _ => (dg_tup rfl (dgs_cons (dg_name (i := 5) sc.nd rfl (by first | exact Or.inl rfl | exact Or.inr rfl)) (dgs_cons (dg_name (i := 6) sc.nd rfl (by first | exact Or.inl rfl | exact Or.inr rfl)) dgs_nil)))))
    (bs_cons (bs_asg (be_cal C__law_term (hr.mono (by omega)) (by rfl) (bb_st 1 (bb_cons (be_up fun n => de_int) bb_nil))) (fun _ => (dg_tup rfl (dgs_cons (dg_name (i := 7) sc.nd rfl (by first | exact Or.inl rfl | exact Or.inr rfl)) (dgs_cons (dg_name (i := 8) sc.nd rfl (by first | exact Or.inl rfl | exact Or.inr rfl)) dgs_nil)))))
    (bss_up fun n => (ds_one (ds_if (PW.pt (dw_or (dt_not (dt_val (de_calG (C__law_term_right n) hgu (hr.mono (by decide)) (by rfl) (db_cons (de_var 3) (db_cons (de_var 4) db_nil))))) (dw_or1 (dt_not (dt_val (de_cal (C__law_facts_right n) (hr.mono (by decide)) (by rfl) (db_cons (de_var 5) (db_cons (de_var 6) (db_cons (de_var 7) (db_cons (de_var 8) db_nil)))))))))) (ds_one (ds_ret de_bl)) ds_nil)))))))
    h2) fun D σ H h => by
    obtain ⟨a, ns, h0, hs, hl, n, F0, F, ρ, E, g, r, ev, h, im⟩ := h
    refine ⟨rngD (5 + min ns.length 8), ⟨n, F0, F, ρ, _, g, r, ev, h, im.nx' fun m ρ' q σ' F' H' g' r' ev' => ⟨m, F0, F', ρ', E, g', r', ev', q, im⟩⟩, fun R hR => ?_⟩
    have e : (5 + if (8 : Int) < (ns.length : Int) then 8 else (ns.length : Int)) = ((5 + min ns.length 8 : Nat) : Int) := by
      split <;> omega
    refine ⟨_, h0, ?_⟩
    refine ⟨_, ns.length, rfl, .inl ⟨_, hs, by rw [List.length_map]⟩, ?_⟩
    refine ⟨_, _, rfl, ?_⟩
    refine ⟨_, _, rfl, rfl, ?_⟩
    refine ⟨_, rfl, by rw [e]; omega, by rw [e]; omega, ?_⟩
    rw [e]
    exact hR _ fun F1 m' => itd_range (5 + min ns.length 8)
end Qp
set_option maxHeartbeats 4000000
namespace Qp
open PySem PySem.Spec PyProof.Rows L2 Qd
variable {P : Program} {w : World} {K : PySem.W.Frag} {mg : Str → Option Value} {base : Heap}
/-! ### the law -/
def spLaw (K : PySem.W.Frag) (tb : Addr) : Sp := fun vs H Q _ => ∃ (a : Addr) (ns : List Int), vs = [.ref a] ∧ ns.length ≤ 1000 ∧ (∀ b o, H b = some o → (b = tb ∧ o = .tbl #[]) ∨ ∃ q, o = .frz q (.lst (ns.map V.int))) ∧ H tb = some (.tbl #[]) ∧ SqL K H a (ns.map V.int) ∧ ∀ H', Q (.bl true) H'
theorem rp_ints {K : PySem.W.Frag} {F : Hp} : ∀ ns : List Int, RpAll K F (ns.map V.int) (ns.map PyData.int)
  | [] => .nil
  | n :: ns => .cons (.int n) (rp_ints ns)
theorem ok_law (T : Tx w K mg) {tb : Addr} {q : Str} {f fB : Addr} {fd fdB : FuncData} {sp : SpN} (F : FnP K "law" s_law f fd) (FB : FnP K "_law_begin" s__law_begin fB fdB) (hB : mg "_law_begin" = some (.ref fB))
    (C__law_term : ∀ d cl lf, CalN P w K mg base ⟨tb, d, cl, lf, q⟩ "_law_term" 9 2 sp)
    (C__law_facts_right : ∀ d cl lf n, Cal P w K mg base (Wp ⟨tb, d, cl, lf, q⟩ n) "_law_facts_right" 10 4 sp__law_facts_right) (C__law_term_right : ∀ d cl lf n, CalG P w K mg base (Wp ⟨tb, d, cl, lf, q⟩ n) "_law_term_right" 11 2 sp__law_term_right) (C__law_closed : ∀ d cl lf n, Cal P w K mg base (Wp ⟨tb, d, cl, lf, q⟩ n) "_law_closed" 1 2 sp__law_closed)
    (rd : ∀ n : Nat, n ≤ 13 → nSeq (nForL (wgName 2) (w_law sp) (rngD n)) (w_lawR sp) { nx := fun _ _ => False, rt := fun _ d => d = .bool true } 0 (.no :: .st :: List.replicate 15 .no)) : FnOkG P w K mg base CX0 12 f fd ["_law_script"] (spLaw K tb) := by
  have sc := sc_law
  have GB := ok_begin (P := P) (w := w) (base := base) T FB
  have bB : Binds K fdB ["_law_script"] [] := FB.bindsN fun _ _ _ _ _ _ us hl => match us, hl with | [_], _ => rfl
  obtain ⟨oc, od, dV, kV, doc, pm, an, cdv, ct, osl, rfl, lk, hcd, _, _⟩ := F.ex
  refine fnG_of lk hcd sc (fun vs H Q E h => ?_) (fun A outer s H vs Q E hg hr h => ?_)
  · obtain ⟨a, ns, rfl, _⟩ := h
    rfl
  · apply Exists.intro
    apply And.intro
    · apply PSs.nox
      exact pss_cons (ps_set (i := 1) sc.nd rfl (Or.inl rfl) (pe_call GB (hr.mono (by decide)) (by rfl) hB FB.kp bB .nil pass0 (pa_cons (pv 0) pa_nil)))
        (pss_ex fun i : Addr × Addr × Addr × Hp => ss_law (d := i.1) (cl := i.2.1) (lf := i.2.2.1) (H0 := i.2.2.2) T hg hr (C__law_term _ _ _) (fun n => C__law_facts_right _ _ _ n) (fun n => C__law_term_right _ _ _ n) (fun n => C__law_closed _ _ _ n))
    · obtain ⟨a, ns, rfl, hl, hH, ht, hs, hQ⟩ := h
      refine ⟨_, rfl, ?_⟩
      refine ⟨a, ns, rfl, hs, hl, fun d cl lf H' h1 nd ncl nlf tp js => ?_⟩
      have h0n : H tb ≠ none := by rw [ht]; simp
      have ne : ∀ {b : Addr}, H b = none → b ≠ tb := fun {b} e z => h0n (by rw [← z]; exact e)
      refine ⟨⟨d, cl, lf, H'⟩, a, ns, rfl, ?_, hl, ?_⟩
      · rcases hs with hs | hs
        · exact .inl (rd_mono h1 hs)
        · exact .inr hs
      · refine ⟨0, fun b => if b = tb then none else H b, fun b => if b = tb then none else H b, .no :: .st :: List.replicate 15 .no, { nx := fun _ _ => False, rt := fun _ d => d = .bool true }, ⟨fun b o e => ?_, fun b m => ?_, fun b m => ?_, ⟨⟨#[], h1 _ _ ht, ?_, fun pos cv e => ?_⟩, js⟩, fun b xs e => ?_⟩, Gr.refl, ⟨rfl, fun i => ?_, fun i j b hij oi => ?_⟩, rd _ (by omega), ⟨fun _ _ q => q.elim, fun _ _ q => q.elim, fun _ _ q => q.elim, fun m e q v F1 H1 g1 r1 rp => ?_⟩⟩
        · by_cases z : b = tb
          · rw [if_pos z] at e; cases e
          · rw [if_neg z] at e
            exact h1 b o e
        · rcases m with rfl | rfl | rfl | rfl
          · exact if_pos rfl
          · show (if _ then _ else _) = _
            rw [if_neg (ne nd)]; exact nd
          · show (if _ then _ else _) = _
            rw [if_neg (ne ncl)]; exact ncl
          · show (if _ then _ else _) = _
            rw [if_neg (ne nlf)]; exact nlf
        · obtain ⟨_, a', cs, ls, e1, _, e3, e4, _⟩ := js
          rcases m with rfl | rfl | rfl | rfl
          · rw [h1 _ _ ht]; simp
          · rw [e1]; simp
          · rw [e3]; simp
          · rw [e4]; simp
        · exact trivial
        · cases (show none = some cv from e)
        · have := tp b xs e
          rcases hH b _ this with ⟨_, z⟩ | ⟨q, z⟩ <;> cases z
        · match i with
          | 0 => exact trivial
          | 1 => exact rfl
          | i + 2 =>
            have : (Bd.no :: Bd.st :: List.replicate 15 Bd.no).getD (i + 2) .no = .no := by
              rw [List.getD_eq_getElem?_getD]
              show (((List.replicate 15 Bd.no)[i]?).getD .no) = .no
              rw [List.getElem?_replicate]
              split <;> rfl
            rw [this]
            exact trivial
        · exfalso
          match i with
          | 0 => exact oi
          | 1 => exact oi
          | i + 2 =>
            have : (Bd.no :: Bd.st :: List.replicate 15 Bd.no).getD (i + 2) .no = .no := by
              rw [List.getD_eq_getElem?_getD]
              show (((List.replicate 15 Bd.no)[i]?).getD .no) = .no
              rw [List.getElem?_replicate]
              split <;> rfl
            rw [this] at oi
            exact oi
        · cases (show e = .bool true from q)
          cases rp
          exact hQ _
end Qp
set_option maxHeartbeats 4000000
namespace Qp
open PySem PySem.Spec PyProof.Rows L2 Qd
variable {P : Program} {w : World} {K : PySem.W.Frag} {mg : Str → Option Value} {base : Heap} {W : Wd}
abbrev N_is_integer : List Str := ["thing"]
abbrev s_is_integer : Stmt := top 5
theorem sc_is_integer : FnScope N_is_integer ["thing"] (defScope s_is_integer) := ⟨rfl, rfl, rfl, by decide +kernel, rfl, by decide +kernel, by decide +kernel⟩
def w_is_integer : WS := (wRet (wAndV (wUn (rIsiD "int") (wVar 0)) (wNotV (wUn (rIsiD "bool") (wVar 0)))))
abbrev N_common : List Str := ["one", "other"]
abbrev s_common : Stmt := top 6
theorem sc_common : FnScope N_common ["one", "other"] (defScope s_common) := ⟨rfl, rfl, rfl, by decide +kernel, rfl, by decide +kernel, by decide +kernel⟩
def w_common : WS := (wSeq (wPar 0 1 (wCallB rAbs (wCons (wVar 0) wNil)) (wCallB rAbs (wCons (wVar 1) wNil)))
  (wSeq (wWhile (wTst (wOp rNeI (wVar 1) (wC (.int 0)))) (wPar 0 1 (wVar 1) (wOp rModI (wVar 0) (wCallB rInt (wCons (wVar 1) wNil)))))
  (wRet (wVar 0))))
abbrev N_made : List Str := ["top", "bottom", "divisor"]
abbrev s_made : Stmt := top 7
theorem sc_made : FnScope N_made ["top", "bottom"] (defScope s_made) := ⟨rfl, rfl, rfl, by decide +kernel, rfl, by decide +kernel, by decide +kernel⟩
def w_made : WS := (wSeq (wIfS (wTst (wOp rLtI (wVar 1) (wC (.int 0)))) (wPar 0 1 (wOp rSubI (wC (.int 0)) (wVar 0)) (wOp rSubI (wC (.int 0)) (wVar 1))) wNext)
  (wSeq (wSet 2 (wCall sp_common 2 (wB (wVar 0) (wB (wVar 1) wB0))))
  (wRet (wTup (wCons (wOp rDivI (wVar 0) (wVar 2)) (wCons (wOp rDivI (wVar 1) (wVar 2)) wNil))))))
abbrev N_is_under : List Str := ["one", "other"]
abbrev s_is_under : Stmt := top 8
theorem sc_is_under : FnScope N_is_under ["one", "other"] (defScope s_is_under) := ⟨rfl, rfl, rfl, by decide +kernel, rfl, by decide +kernel, by decide +kernel⟩
def w_is_under : WS := (wRet (wOp rLtI (wOp rMulI (wOp rIxD (wVar 0) (wC (.int 0))) (wOp rIxD (wVar 1) (wC (.int 1)))) (wOp rMulI (wOp rIxD (wVar 1) (wC (.int 0))) (wOp rIxD (wVar 0) (wC (.int 1))))))
abbrev N_is_between : List Str := ["thing", "least", "most"]
abbrev s_is_between : Stmt := top 14
theorem sc_is_between : FnScope N_is_between ["thing", "least", "most"] (defScope s_is_between) := ⟨rfl, rfl, rfl, by decide +kernel, rfl, by decide +kernel, by decide +kernel⟩
def w_is_between : WS := (wRet (wAndV (wCall sp_is_integer 1 (wB (wVar 0) wB0)) (wChain rLeI rLeI (wVar 1) (wVar 0) (wVar 2))))
abbrev N_are_rising : List Str := ["some", "one", "other"]
abbrev s_are_rising : Stmt := top 15
theorem sc_are_rising : FnScope N_are_rising ["some"] (defScope s_are_rising) := ⟨rfl, rfl, rfl, by decide +kernel, rfl, by decide +kernel, by decide +kernel⟩
def w_are_rising : WS := (wRet (wCallB rAllD (wCons (wFz (wLc (wZip (wVar 0) (wCut (wVar 0) (some 1) none)) (wgTup 2 (wgCons (wgName 1) (wgCons (wgName 2) wgNil))) wYes (wOp rLtB (wVar 1) (wVar 2)) [1, 2])) wNil)))
abbrev N_is_pair_below : List Str := ["size", "thing", "one"]
abbrev s_is_pair_below : Stmt := top 16
theorem sc_is_pair_below : FnScope N_is_pair_below ["size", "thing"] (defScope s_is_pair_below) := ⟨rfl, rfl, rfl, by decide +kernel, rfl, by decide +kernel, by decide +kernel⟩
def w_is_pair_below : WS := (wSeq (wIfS (wOr (wNot (wTst (wUn (rIsiD "tuple") (wVar 1)))) (wOr (wTst (wOp rNeI (wCallB rLen (wCons (wVar 1) wNil)) (wC (.int 2)))) (wNot (wTst (wCallB rAllD (wCons (wFz (wLc (wSeqI (wVar 1)) (wgName 2) wYes (wCall sp_is_between 3 (wB (wVar 2) (wB (wC (.int 0)) (wB (wOp rSubI (wVar 0) (wC (.int 1))) wB0)))) [2])) wNil)))))) (wRet (wC (.bool false))) wNext)
  (wRet (wOp rNeI (wOp rIxD (wVar 1) (wC (.int 0))) (wOp rIxD (wVar 1) (wC (.int 1))))))
abbrev N_are_ties : List Str := ["size", "thing", "one"]
abbrev s_are_ties : Stmt := top 17
theorem sc_are_ties : FnScope N_are_ties ["size", "thing"] (defScope s_are_ties) := ⟨rfl, rfl, rfl, by decide +kernel, rfl, by decide +kernel, by decide +kernel⟩
def w_are_ties : WS := (wSeq (wIfS (wOr (wNot (wTst (wUn (rIsiD "tuple") (wVar 1)))) (wOr (wTst (wOp rGtI (wCallB rLen (wCons (wVar 1) wNil)) (wC (.int 45)))) (wNot (wTst (wCallB rAllD (wCons (wFz (wLc (wSeqI (wVar 1)) (wgName 2) wYes (wCall sp_is_pair_below 2 (wB (wVar 0) (wB (wVar 2) wB0))) [2])) wNil)))))) (wRet (wC (.bool false))) wNext)
  (wRet (wCall sp_are_rising 1 (wB (wVar 1) wB0))))
abbrev N_ups_by : List Str := ["size", "ties", "found", "one", "known", "waiting", "here", "near", "far"]
abbrev s_ups_by : Stmt := top 18
theorem sc_ups_by : FnScope N_ups_by ["size", "ties"] (defScope s_ups_by) := ⟨rfl, rfl, rfl, by decide +kernel, rfl, by decide +kernel, by decide +kernel⟩
def w_ups_by : WS := (wSeq (wSetO 2 (wLst wNil))
  (wSeq (wFor (wRng (wVar 0)) (wgName 3) (wSeq (wParDO 4 5 (wLst (wCons (wVar 3) wNil)))
  (wSeq (wWhile (wTst (wOp rNeD (wPk 5) (wFz (wLst wNil)))) (wSeq (wPop 5 (wgName 6))
  (wFor (wSeqI (wVar 1)) (wgTup 2 (wgCons (wgName 7) (wgCons (wgName 8) wgNil))) (wIfS (wAnd (wTst (wOp rEqI (wVar 7) (wVar 6))) (wTst (wDIn true 4 (wVar 8)))) (wSeq (wDPut 4 (wVar 8) (wC (.bool true)))
  (wApp 5 (wVar 8))) wNext))))
  (wApp 2 (wFz (wSortD 4))))))
  (wRetO 2)))
abbrev N_is_seen : List Str := ["thing"]
abbrev s_is_seen : Stmt := top 19
theorem sc_is_seen : FnScope N_is_seen ["thing"] (defScope s_is_seen) := ⟨rfl, rfl, rfl, by decide +kernel, rfl, by decide +kernel, by decide +kernel⟩
def w_is_seen : WS := (wSeq (wIfS (wOr (wNot (wTst (wUn (rIsiD "tuple") (wVar 0)))) (wTst (wOp rNeI (wCallB rLen (wCons (wVar 0) wNil)) (wC (.int 2))))) (wRet (wC (.bool false))) wNext)
  (wRet (wAndV (wCall sp_is_between 3 (wB (wOp rIxD (wVar 0) (wC (.int 0))) (wB (wOp rSubI (wC (.int 0)) (wC (.int 1000))) (wB (wC (.int 1000)) wB0)))) (wCall sp_is_between 3 (wB (wOp rIxD (wVar 0) (wC (.int 1))) (wB (wC (.int 1)) (wB (wC (.int 1000)) wB0)))))))
theorem ok_is_integer (T : Tx w K mg) {f : Addr} {fd : FuncData} (F : FnP K "is_integer" s_is_integer f fd) (hm : mg "is_integer" = some (.ref f))  (rd : ∀ bs Q, sp_is_integer bs Q → w_is_integer { nx := fun _ => Q .none, rt := Q } (bs ++ List.replicate (N_is_integer.length - bs.length) .no)) : Cal P w K mg base W "is_integer" 1 1 sp_is_integer := by
  have sc := sc_is_integer
  refine ⟨f, fd, ["thing"], fn_d F sc (wb := w_is_integer) (fun cdv A outer s H E hr => ?_) rd, hm, F.kp, F.bindsN fun _ _ _ _ _ _ us hl => match us, hl with | [_], _ => rfl⟩
  exact (ds_one (ds_ret (de_and (de_isi (de_var 0) (by rfl) T.n_isinstance (by rfl) T.n_int PyProof.Rows.boot_int) (de_one (de_not (de_isi (de_var 0) (by rfl) T.n_isinstance (by rfl) T.n_bool PyProof.Rows.boot_bool))))))
theorem ok_common (T : Tx w K mg) {f : Addr} {fd : FuncData} (F : FnP K "common" s_common f fd) (hm : mg "common" = some (.ref f))  (rd : ∀ bs Q, sp_common bs Q → w_common { nx := fun _ => Q .none, rt := Q } (bs ++ List.replicate (N_common.length - bs.length) .no)) : Cal P w K mg base W "common" 1 2 sp_common := by
  have sc := sc_common
  refine ⟨f, fd, ["one", "other"], fn_d F sc (wb := w_common) (fun cdv A outer s H E hr => ?_) rd, hm, F.kp, F.bindsN fun _ _ _ _ _ _ us hl => match us, hl with | [_, _], _ => rfl⟩
  exact (ds_cons (ds_par (i := 0) (j := 1) rfl sc.nd rfl rfl (by decide) rfl rfl (de_callB cp_abs (by rfl) T.n_abs PyProof.Rows.boot_abs (dp_cons (DE.pk (de_var 0)) dp_nil)) (de_callB cp_abs (by rfl) T.n_abs PyProof.Rows.boot_abs (dp_cons (DE.pk (de_var 1)) dp_nil)) (by rfl))
    (ds_cons (ds_while PassesOwn.never (dt_cmp od_neI (de_var 1) de_int (nomark _)) (ds_one (ds_par (i := 0) (j := 1) rfl sc.nd rfl rfl (by decide) rfl rfl (de_var 1) (de_bin od_mod (de_var 0) (de_callT cp_int (by rfl) T.n_int PyProof.Rows.boot_int (dp_cons (DE.pk (de_var 1)) dp_nil))) (by rfl))))
    (ds_one (ds_ret (de_var 0)))))
theorem ok_made (T : Tx w K mg) {f : Addr} {fd : FuncData} (F : FnP K "made" s_made f fd) (hm : mg "made" = some (.ref f)) (C_common : Cal P w K mg base W "common" 1 2 sp_common) (rd : ∀ bs Q, sp_made bs Q → w_made { nx := fun _ => Q .none, rt := Q } (bs ++ List.replicate (N_made.length - bs.length) .no)) : Cal P w K mg base W "made" 2 2 sp_made := by
  have sc := sc_made
  refine ⟨f, fd, ["top", "bottom"], fn_d F sc (wb := w_made) (fun cdv A outer s H E hr => ?_) rd, hm, F.kp, F.bindsN fun _ _ _ _ _ _ us hl => match us, hl with | [_, _], _ => rfl⟩
  exact (ds_cons (ds_if (dt_cmp (od_lt) (de_var 1) de_int (nomark _)) (ds_one (ds_par (i := 0) (j := 1) rfl sc.nd rfl rfl (by decide) rfl rfl (de_bin od_sub de_int (de_var 0)) (de_bin od_sub de_int (de_var 1)) (by rfl))) ds_nil)
    (ds_cons (ds_set (i := 2) sc.nd rfl (by first | exact Or.inl rfl | exact Or.inr rfl) (de_cal C_common (hr.mono (by decide)) (by rfl) (db_cons (de_var 0) (db_cons (de_var 1) db_nil))))
    (ds_one (ds_ret (de_tup (da_cons (de_bin od_div (de_var 0) (de_var 2)) (da_cons (de_bin od_div (de_var 1) (de_var 2)) da_nil)))))))
theorem ok_is_under (T : Tx w K mg) {f : Addr} {fd : FuncData} (F : FnP K "is_under" s_is_under f fd) (hm : mg "is_under" = some (.ref f))  (rd : ∀ bs Q, sp_is_under bs Q → w_is_under { nx := fun _ => Q .none, rt := Q } (bs ++ List.replicate (N_is_under.length - bs.length) .no)) : Cal P w K mg base W "is_under" 1 2 sp_is_under := by
  have sc := sc_is_under
  refine ⟨f, fd, ["one", "other"], fn_d F sc (wb := w_is_under) (fun cdv A outer s H E hr => ?_) rd, hm, F.kp, F.bindsN fun _ _ _ _ _ _ us hl => match us, hl with | [_, _], _ => rfl⟩
  exact (ds_one (ds_ret (de_cmp (od_lt) (de_bin od_mul (de_ix (DE.pk (de_var 0)) de_int (fun _ _ => rfl)) (de_ix (DE.pk (de_var 1)) de_int (fun _ _ => rfl))) (de_bin od_mul (de_ix (DE.pk (de_var 1)) de_int (fun _ _ => rfl)) (de_ix (DE.pk (de_var 0)) de_int (fun _ _ => rfl))) (nomark _))))
theorem ok_is_between (T : Tx w K mg) {f : Addr} {fd : FuncData} (F : FnP K "is_between" s_is_between f fd) (hm : mg "is_between" = some (.ref f)) (C_is_integer : Cal P w K mg base W "is_integer" 1 1 sp_is_integer) (rd : ∀ bs Q, sp_is_between bs Q → w_is_between { nx := fun _ => Q .none, rt := Q } (bs ++ List.replicate (N_is_between.length - bs.length) .no)) : Cal P w K mg base W "is_between" 2 3 sp_is_between := by
  have sc := sc_is_between
  refine ⟨f, fd, ["thing", "least", "most"], fn_d F sc (wb := w_is_between) (fun cdv A outer s H E hr => ?_) rd, hm, F.kp, F.bindsN fun _ _ _ _ _ _ us hl => match us, hl with | [_, _, _], _ => rfl⟩
  exact (ds_one (ds_ret (de_and (de_cal C_is_integer (hr.mono (by decide)) (by rfl) (db_cons (de_var 0) db_nil)) (de_one (de_chain od_le od_le (de_var 1) (de_var 0) (de_var 2))))))
theorem ok_are_rising (T : Tx w K mg) {f : Addr} {fd : FuncData} (F : FnP K "are_rising" s_are_rising f fd) (hm : mg "are_rising" = some (.ref f))  (rd : ∀ bs Q, sp_are_rising bs Q → w_are_rising { nx := fun _ => Q .none, rt := Q } (bs ++ List.replicate (N_are_rising.length - bs.length) .no)) : Cal P w K mg base W "are_rising" 1 1 sp_are_rising := by
  have sc := sc_are_rising
  refine ⟨f, fd, ["some"], fn_d F sc (wb := w_are_rising) (fun cdv A outer s H E hr => ?_) rd, hm, F.kp, F.bindsN fun _ _ _ _ _ _ us hl => match us, hl with | [_], _ => rfl⟩
  have hu0 := hr.units0
  exact (ds_one (ds_ret (de_callB (cp_all rfl) (by rfl) T.n_all PyProof.Rows.boot_all (dp_cons (DE.pk (DF.de (df_lc (own := [("one", 1), ("other", 2)]) rfl sc.nd (di_zip (de_var 0) (de_cut (de_var 0) po_lit po_no) (by rfl) T.n_zip) (blkOk_by (sc := defScope s_are_rising) (own := [("one", 1), ("other", 2)]) (N := N_are_rising) (by decide +kernel)) (fun _ _ _ _ _ => (dg_tup rfl (dgs_cons (dg_name (i := 1) sc.nd rfl (by first | exact Or.inl rfl | exact Or.inr rfl)) (dgs_cons (dg_name (i := 2) sc.nd rfl (by first | exact Or.inl rfl | exact Or.inr rfl)) dgs_nil)))) (fun _ _ _ _ _ => dts_nil) (fun _ _ _ _ _ => (de_cmp (od_ltB hu0) (de_var 1) (de_var 2) (nomark _)))))) dp_nil))))
theorem ok_is_pair_below (T : Tx w K mg) {f : Addr} {fd : FuncData} (F : FnP K "is_pair_below" s_is_pair_below f fd) (hm : mg "is_pair_below" = some (.ref f)) (C_is_between : Cal P w K mg base W "is_between" 2 3 sp_is_between) (rd : ∀ bs Q, sp_is_pair_below bs Q → w_is_pair_below { nx := fun _ => Q .none, rt := Q } (bs ++ List.replicate (N_is_pair_below.length - bs.length) .no)) : Cal P w K mg base W "is_pair_below" 3 2 sp_is_pair_below := by
  have sc := sc_is_pair_below
  refine ⟨f, fd, ["size", "thing"], fn_d F sc (wb := w_is_pair_below) (fun cdv A outer s H E hr => ?_) rd, hm, F.kp, F.bindsN fun _ _ _ _ _ _ us hl => match us, hl with | [_, _], _ => rfl⟩
  exact (ds_cons (ds_if (PW.pt (dw_or (dt_not (dt_val (de_isi (de_var 1) (by rfl) T.n_isinstance (by rfl) T.n_tuple PyProof.Rows.boot_tuple))) (dw_or (dt_cmp od_neI (de_callB cp_len (by rfl) T.n_len PySem.boot_len (dp_cons (DE.pk (de_var 1)) dp_nil)) de_int (nomark _)) (dw_or1 (dt_not (dt_val (de_callB (cp_all rfl) (by rfl) T.n_all PyProof.Rows.boot_all (dp_cons (DE.pk (DF.de (df_lc (own := [("one", 2)]) rfl sc.nd (di_seq (de_var 1)) (blkOk_by (sc := defScope s_is_pair_below) (own := [("one", 2)]) (N := N_is_pair_below) (by decide +kernel)) (fun _ _ _ _ _ => (dg_name (i := 2) sc.nd rfl (by first | exact Or.inl rfl | exact Or.inr rfl))) (fun _ _ _ _ _ => dts_nil) (fun _ _ _ _ _ => (de_cal C_is_between (hr.mono (by decide)) (by rfl) (db_cons (de_var 2) (db_cons de_int (db_cons (de_bin od_sub (de_var 0) de_int) db_nil)))))))) dp_nil)))))))) (ds_one (ds_ret de_bl)) ds_nil)
    (ds_one (ds_ret (de_cmp od_neI (de_ix (DE.pk (de_var 1)) de_int (fun _ _ => rfl)) (de_ix (DE.pk (de_var 1)) de_int (fun _ _ => rfl)) (nomark _)))))
theorem ok_are_ties (T : Tx w K mg) {f : Addr} {fd : FuncData} (F : FnP K "are_ties" s_are_ties f fd) (hm : mg "are_ties" = some (.ref f)) (C_is_pair_below : Cal P w K mg base W "is_pair_below" 3 2 sp_is_pair_below) (C_are_rising : Cal P w K mg base W "are_rising" 1 1 sp_are_rising) (rd : ∀ bs Q, sp_are_ties bs Q → w_are_ties { nx := fun _ => Q .none, rt := Q } (bs ++ List.replicate (N_are_ties.length - bs.length) .no)) : Cal P w K mg base W "are_ties" 4 2 sp_are_ties := by
  have sc := sc_are_ties
  refine ⟨f, fd, ["size", "thing"], fn_d F sc (wb := w_are_ties) (fun cdv A outer s H E hr => ?_) rd, hm, F.kp, F.bindsN fun _ _ _ _ _ _ us hl => match us, hl with | [_, _], _ => rfl⟩
  exact (ds_cons (ds_if (PW.pt (dw_or (dt_not (dt_val (de_isi (de_var 1) (by rfl) T.n_isinstance (by rfl) T.n_tuple PyProof.Rows.boot_tuple))) (dw_or (dt_cmp (od_gt) (de_callB cp_len (by rfl) T.n_len PySem.boot_len (dp_cons (DE.pk (de_var 1)) dp_nil)) (de_globI (by rfl) T.i_MOST_TIES) (nomark _)) (dw_or1 (dt_not (dt_val (de_callB (cp_all rfl) (by rfl) T.n_all PyProof.Rows.boot_all (dp_cons (DE.pk (DF.de (df_lc (own := [("one", 2)]) rfl sc.nd (di_seq (de_var 1)) (blkOk_by (sc := defScope s_are_ties) (own := [("one", 2)]) (N := N_are_ties) (by decide +kernel)) (fun _ _ _ _ _ => (dg_name (i := 2) sc.nd rfl (by first | exact Or.inl rfl | exact Or.inr rfl))) (fun _ _ _ _ _ => dts_nil) (fun _ _ _ _ _ => (de_cal C_is_pair_below (hr.mono (by decide)) (by rfl) (db_cons (de_var 0) (db_cons (de_var 2) db_nil))))))) dp_nil)))))))) (ds_one (ds_ret de_bl)) ds_nil)
    (ds_one (ds_ret (de_cal C_are_rising (hr.mono (by decide)) (by rfl) (db_cons (de_var 1) db_nil)))))
theorem ok_ups_by (T : Tx w K mg) {f : Addr} {fd : FuncData} (F : FnP K "ups_by" s_ups_by f fd) (hm : mg "ups_by" = some (.ref f))  (rd : ∀ bs Q, sp_ups_by bs Q → w_ups_by { nx := fun _ => Q .none, rt := Q } (bs ++ List.replicate (N_ups_by.length - bs.length) .no)) : Cal P w K mg base W "ups_by" 1 2 sp_ups_by := by
  have sc := sc_ups_by
  refine ⟨f, fd, ["size", "ties"], fn_d F sc (wb := w_ups_by) (fun cdv A outer s H E hr => ?_) rd, hm, F.kp, F.bindsN fun _ _ _ _ _ _ us hl => match us, hl with | [_, _], _ => rfl⟩
  have hu64 := hr.units
  have hu1 := hu_of hr
  exact (ds_cons (ds_setO (i := 2) sc.nd rfl (by first | exact Or.inl rfl | exact Or.inr rfl) (df_lst da_nil))
    (ds_cons (ds_for PassesOwn.never rfl (di_rng (de_var 0) (by rfl) T.n_range) (dg_name (i := 3) sc.nd rfl (by first | exact Or.inl rfl | exact Or.inr rfl)) (ds_cons (ds_parDO (i := 4) (j := 5) rfl sc.nd rfl rfl (by decide) rfl rfl (df_lst (da_cons (de_var 3) da_nil)) (by rfl))
    (ds_cons (ds_while PassesOwn.never (dt_cmpP (op_neP hu64) (dk_var 5) (DE.pk (DF.de (df_lst da_nil))) (nomark _)) (ds_cons (ds_pop 5 (dg_name (i := 6) sc.nd rfl (by first | exact Or.inl rfl | exact Or.inr rfl)))
    (ds_one (ds_for PassesOwn.never rfl (di_seq (de_var 1)) (dg_tup rfl (dgs_cons (dg_name (i := 7) sc.nd rfl (by first | exact Or.inl rfl | exact Or.inr rfl)) (dgs_cons (dg_name (i := 8) sc.nd rfl (by first | exact Or.inl rfl | exact Or.inr rfl)) dgs_nil))) (ds_one (ds_if (PW.pt (dw_and (dt_cmp od_eqI (de_var 7) (de_var 6) (nomark _)) (dw_and1 (dt_dnin 4 hu1 (de_var 8))))) (ds_cons (ds_dput 4 hu1 (de_var 8) de_bl)
    (ds_one (ds_app 5 (de_var 8)))) ds_nil))))))
    (ds_one (ds_app 2 (DF.de (df_sortD 4 rfl (by rfl) T.n_sorted)))))))
    (ds_one (ds_retO 2))))
theorem ok_is_seen (T : Tx w K mg) {f : Addr} {fd : FuncData} (F : FnP K "is_seen" s_is_seen f fd) (hm : mg "is_seen" = some (.ref f)) (C_is_between : Cal P w K mg base W "is_between" 2 3 sp_is_between) (rd : ∀ bs Q, sp_is_seen bs Q → w_is_seen { nx := fun _ => Q .none, rt := Q } (bs ++ List.replicate (N_is_seen.length - bs.length) .no)) : Cal P w K mg base W "is_seen" 3 1 sp_is_seen := by
  have sc := sc_is_seen
  refine ⟨f, fd, ["thing"], fn_d F sc (wb := w_is_seen) (fun cdv A outer s H E hr => ?_) rd, hm, F.kp, F.bindsN fun _ _ _ _ _ _ us hl => match us, hl with | [_], _ => rfl⟩
  exact (ds_cons (ds_if (PW.pt (dw_or (dt_not (dt_val (de_isi (de_var 0) (by rfl) T.n_isinstance (by rfl) T.n_tuple PyProof.Rows.boot_tuple))) (dw_or1 (dt_cmp od_neI (de_callB cp_len (by rfl) T.n_len PySem.boot_len (dp_cons (DE.pk (de_var 0)) dp_nil)) de_int (nomark _))))) (ds_one (ds_ret de_bl)) ds_nil)
    (ds_one (ds_ret (de_and (de_cal C_is_between (hr.mono (by decide)) (by rfl) (db_cons (de_ix (DE.pk (de_var 0)) de_int (fun _ _ => rfl)) (db_cons (de_bin od_sub de_int (de_globI (by rfl) T.i_MOST_WORTH)) (db_cons (de_globI (by rfl) T.i_MOST_WORTH) db_nil)))) (de_one (de_cal C_is_between (hr.mono (by decide)) (by rfl) (db_cons (de_ix (DE.pk (de_var 0)) de_int (fun _ _ => rfl)) (db_cons de_int (db_cons (de_globI (by rfl) T.i_MOST_WEIGHT) db_nil)))))))))
end Qp
set_option maxHeartbeats 2000000
namespace Qp
open PySem PySem.Spec PyProof.Rows L2 Qd
theorem rd_is_integer : ∀ bs Q, sp_is_integer bs Q → w_is_integer { nx := fun _ => Q .none, rt := Q } (bs ++ List.replicate (N_is_integer.length - bs.length) .no) := by
  rintro bs Q ⟨i, rfl, q⟩
  exact q
theorem rd_is_under : ∀ bs Q, sp_is_under bs Q → w_is_under { nx := fun _ => Q .none, rt := Q } (bs ++ List.replicate (N_is_under.length - bs.length) .no) := by
  rintro bs Q ⟨x, y, rfl, hx, hy, q⟩
  exact ⟨_, rfl, ⟨_, rfl, ⟨.inr (by omega), ⟨_, rfl, ⟨_, rfl, ⟨.inr (by omega), ⟨trivial, q⟩⟩⟩⟩⟩⟩⟩
theorem rd_is_between : ∀ bs Q, sp_is_between bs Q → w_is_between { nx := fun _ => Q .none, rt := Q } (bs ++ List.replicate (N_is_between.length - bs.length) .no) := by
  rintro bs Q ⟨a, lo, hi, rfl, q⟩
  refine ⟨rfl, a, rfl, trivial, ?_⟩
  show if decide (lo ≤ a) = true then _ else _
  by_cases h : lo ≤ a
  · rw [decide_eq_true h] at q ⊢
    exact ⟨trivial, q⟩
  · rw [decide_eq_false h] at q ⊢
    exact q
theorem rd_common : ∀ bs Q, sp_common bs Q → w_common { nx := fun _ => Q .none, rt := Q } (bs ++ List.replicate (N_common.length - bs.length) .no) := by
  rintro bs Q ⟨a, b, rfl, q⟩
  show ∃ I : Nat → En → Prop, _
  refine ⟨fun m ρ => ∃ x y : Nat, ρ = [.val (.int (x : Int)), .val (.int (y : Int))] ∧ Nat.gcd x y = Int.gcd a b ∧ m = y, ⟨b.natAbs, a.natAbs, b.natAbs, ?_, rfl, rfl⟩, ?_⟩
  · have e : ∀ z : Int, (if z < 0 then -z else z) = (z.natAbs : Int) := fun z => by split <;> omega
    show [Bd.val (.int (if a < 0 then -a else a)), Bd.val (.int (if b < 0 then -b else b))] = _
    rw [e, e]
  · rintro y ρ ⟨x, y', rfl, hg, hm⟩
    subst hm
    refine ⟨trivial, ?_⟩
    by_cases h : y = 0
    · subst h
      rw [Nat.gcd_zero_right] at hg
      show Q (.int (x : Int))
      rw [hg]
      exact q
    · show if _ then _ else _
      rw [if_pos (by simp [h])]
      refine ⟨(by omega : (y : Int) ≠ 0), ?_⟩
      refine ⟨x % y, Nat.mod_lt _ (by omega), y, x % y, ?_, ?_, rfl⟩
      · show [Bd.val (.int (y : Int)), Bd.val (.int ((x : Int).fmod (y : Int)))] = _
        rw [Int.fmod_eq_emod_of_nonneg _ (by omega)]
        rfl
      · rw [← hg, Nat.gcd_comm y, ← Nat.gcd_rec, Nat.gcd_comm]
theorem rd_made : ∀ bs Q, sp_made bs Q → w_made { nx := fun _ => Q .none, rt := Q } (bs ++ List.replicate (N_made.length - bs.length) .no) := by
  rintro bs Q ⟨a, b, rfl, hb, hb2, q⟩
  refine ⟨trivial, ?_⟩
  show if decide (b < 0) = true then _ else _
  rw [if_neg (by simp; omega)]
  refine ⟨rfl, a, b, rfl, ?_⟩
  have hg : 0 < Int.gcd a b := Int.gcd_pos_of_ne_zero_right _ (by omega)
  have hgb : ((Int.gcd a b : Nat) : Int) ∣ b := Int.gcd_dvd_right ..
  have hga : ((Int.gcd a b : Nat) : Int) ∣ a := Int.gcd_dvd_left ..
  generalize eg : Int.gcd a b = g at hg hgb hga
  have hle : (g : Int) ≤ b := Int.le_of_dvd hb hgb
  refine ⟨⟨by omega, by omega⟩, ⟨by omega, by omega⟩, by simp [sizeLine_eq], ?_⟩
  obtain ⟨x, rfl⟩ := hga
  obtain ⟨y, rfl⟩ := hgb
  have e : ∀ z : Int, ((g : Int) * z).fdiv g = z := fun z => by rw [Int.mul_comm]; exact Int.mul_fdiv_cancel _ (by omega)
  show Q (.tuple [.int (((g : Int) * x).fdiv g), .int (((g : Int) * y).fdiv g)])
  rw [e, e]
  have hy : 0 < y := by
    rcases Int.lt_or_le 0 y with h | h
    · exact h
    · have : (g : Int) * y ≤ 0 := Int.mul_nonpos_of_nonneg_of_nonpos (by omega) h
      omega
  refine q (x, y) hy ?_ ?_ ?_
  · show y ≤ (g : Int) * y
    have : 1 * y ≤ (g : Int) * y := Int.mul_le_mul_of_nonneg_right (by omega) (by omega)
    omega
  · rw [Int.gcd_mul_left] at eg
    have : g * Int.gcd x y = g * 1 := by simpa using eg
    exact Nat.eq_of_mul_eq_mul_left hg this
  · show x * ((g : Int) * y) = (g : Int) * x * y
    rw [Int.mul_left_comm, Int.mul_assoc]
end Qp
set_option maxHeartbeats 2000000
namespace Qp
open PySem PySem.Spec PyProof.Rows L2 Qd
/-- a test that is known -/
def Tst (t : WT) (ρ : En) (b : Bool) : Prop := ∀ Q : Bool → Prop, Q b → t ρ Q
theorem if_f {t : WT} {w w2 : WS} {E : WEnds} {ρ : En} (h : Tst t ρ false) (k : w2 E ρ) : wIfS t w w2 E ρ := h _ (by rw [if_neg (by simp)]; exact k)
theorem if_t {t : WT} {w w2 : WS} {E : WEnds} {ρ : En} (h : Tst t ρ true) (k : w E ρ) : wIfS t w w2 E ρ := h _ (by rw [if_pos rfl]; exact k)
theorem or_f {t u : WT} {ρ : En} (h : Tst t ρ false) (k : Tst u ρ false) : Tst (wOr t u) ρ false := fun Q q => h _ (by rw [if_neg (by simp)]; exact k Q q)
theorem or_t {t u : WT} {ρ : En} (h : Tst t ρ true) : Tst (wOr t u) ρ true := fun Q q => h _ (by rw [if_pos rfl]; exact q)
theorem or_s {t u : WT} {ρ : En} {b : Bool} (h : Tst t ρ false) (k : Tst u ρ b) : Tst (wOr t u) ρ b := fun Q q => h _ (by rw [if_neg (by simp)]; exact k Q q)
theorem and_s {t u : WT} {ρ : En} {b : Bool} (h : Tst t ρ true) (k : Tst u ρ b) : Tst (wAnd t u) ρ b := fun Q q => h _ (by rw [if_pos rfl]; exact k Q q)
theorem and_f {t u : WT} {ρ : En} (h : Tst t ρ false) : Tst (wAnd t u) ρ false := fun Q q => h _ (by rw [if_neg (by simp)]; exact q)
theorem not_s {t : WT} {ρ : En} {b : Bool} (h : Tst t ρ (!b)) : Tst (wNot t) ρ b := fun Q q => h _ (by rw [Bool.not_not]; exact q)
/-- values that are known -/
def Val (w : WE) (ρ : En) (d : PyData) : Prop := ∀ Q : PyData → Prop, Q d → w ρ Q
def ValP (w : WP) (ρ : En) (ds : List PyData) : Prop := ∀ Q : List PyData → Prop, Q ds → w ρ Q
theorem val_tst {w : WE} {ρ : En} {b : Bool} (h : Val w ρ (.bool b)) : Tst (wTst w) ρ b := fun Q q => h _ q
theorem valP_lc {α : Type} {wl : WP} {g : WG} {te : WE} {vs : List Nat} {ρ : En} (enc f : α → PyData) (xs : List α) (hl : xs.length ≤ 1000) (hw : ValP wl ρ (xs.map enc))
    (h : ∀ x ∈ xs, ∀ Q : PyData → Prop, Q (f x) → g (enc x) (wipeR ρ vs) fun ρ' => te ρ' Q) : ValP (wLc wl g wYes te vs) ρ (xs.map f) := fun Q q => hw _ (lc_map enc f (by rw [sizeLine_eq]; omega) h q)
theorem valP_lcf {α : Type} {wl : WP} {g : WG} {tt : WT} {te : WE} {vs : List Nat} {ρ : En} (enc : α → PyData) (p : α → Bool) (f : α → PyData) (xs : List α) (hl : xs.length ≤ 1024) (hw : ValP wl ρ (xs.map enc))
    (h : ∀ x ∈ xs, ∀ (Q1 : PyData → Prop) (Q2 : Prop), (p x = true → Q1 (f x)) → (p x = false → Q2) → g (enc x) (wipeR ρ vs) fun ρ' => tt ρ' fun b => if b = true then te ρ' Q1 else Q2) : ValP (wLc wl g tt te vs) ρ ((xs.filter p).map f) := fun Q q => hw _ (lc_filt enc p f (by rw [sizeLine_eq, List.length_nil]; omega) h (by rw [List.nil_append]; exact q))
theorem val_fz {wl : WP} {ρ : En} {ds : List PyData} (h : ValP wl ρ ds) : Val (wFz wl) ρ (.list ds) := fun Q q => h _ q
theorem val_all {α : Type} {wl : WP} {g : WG} {te : WE} {vs : List Nat} {ρ : En} (enc : α → PyData) (f : α → Bool) (xs : List α) (hl : xs.length ≤ 1000) (hw : ValP wl ρ (xs.map enc))
    (h : ∀ x ∈ xs, ∀ Q : PyData → Prop, Q (.bool (f x)) → g (enc x) (wipeR ρ vs) fun ρ' => te ρ' Q) : Val (wCallB rAllD (wCons (wFz (wLc wl g wYes te vs)) wNil)) ρ (.bool (xs.all f)) := fun Q q => valP_lc enc (fun x => .bool (f x)) xs hl hw h _ (rAll_map f xs q)
theorem val_any {α : Type} {wl : WP} {g : WG} {te : WE} {vs : List Nat} {ρ : En} (enc : α → PyData) (f : α → Bool) (xs : List α) (hl : xs.length ≤ 1000) (hw : ValP wl ρ (xs.map enc))
    (h : ∀ x ∈ xs, ∀ Q : PyData → Prop, Q (.bool (f x)) → g (enc x) (wipeR ρ vs) fun ρ' => te ρ' Q) : Val (wCallB rAnyD (wCons (wFz (wLc wl g wYes te vs)) wNil)) ρ (.bool (xs.any f)) := fun Q q => valP_lc enc (fun x => .bool (f x)) xs hl hw h _ (rAny_map f xs q)
theorem all_true {α : Type} {xs : List α} : (xs.all fun _ => true) = true := List.all_eq_true.mpr fun _ _ => rfl
theorem cut_tail (xs : List PyData) : Qd.cutD xs (some 1) none = xs.tail := by
  unfold Qd.cutD
  have h1 : HT.sIx xs.length 0 (some 1) = min 1 xs.length := HT.sIx_nat xs.length 0 1
  rw [h1, HT.sIx_none]
  cases xs with
  | nil => rfl
  | cons x xs =>
    rw [List.length_cons, show min 1 (xs.length + 1) = 1 by omega]
    simp
theorem zipWith_self {α β γ : Type} (e : α → β) (f : β → β → γ) : ∀ l m : List α, List.zipWith f (l.map e) (m.map e) = (l.zip m).map fun x => f (e x.1) (e x.2)
  | [], _ => rfl
  | _ :: _, [] => rfl
  | a :: l, b :: m => by
    rw [List.map_cons, List.map_cons, List.zipWith_cons_cons, List.zip_cons_cons, List.map_cons, zipWith_self e f l m]
theorem zip_tail {α : Type} (e : α → PyData) (l : List α) : zipD (l.map e) (l.map e).tail = (l.zip l.tail).map fun x => .tuple [e x.1, e x.2] := by
  rw [← List.map_tail]
  exact zipWith_self e _ l l.tail
theorem zip_pw {α : Type} {R : α → α → Prop} : ∀ {l : List α}, l.Pairwise R → ∀ x ∈ l.zip l.tail, R x.1 x.2
  | [], _, x, h => nomatch h
  | [a], _, x, h => nomatch h
  | a :: b :: l, p, x, h => by
    rw [List.tail_cons, List.zip_cons_cons] at h
    rcases List.mem_cons.mp h with rfl | h
    · exact (List.pairwise_cons.mp p).1 b List.mem_cons_self
    · exact zip_pw (List.pairwise_cons.mp p).2 x h
theorem rise {α : Type} (e : α → PyData) {R : α → α → Prop} {l : List α} (p : l.Pairwise R) (hl : l.length ≤ 1000) (h : ∀ x y, R x y → ∀ Q : PyData → Prop, Q (.bool true) → rLtB (e x) (e y) Q) {Q : PyData → Prop} (q : Q (.bool true)) :
    w_are_rising { nx := fun _ => Q .none, rt := Q } [.val (.tuple (l.map e)), .no, .no] := by
  show wLcL _ _ _ (zipD (l.map e) (Qd.cutD (l.map e) (some 1) none)) [] _ _
  rw [cut_tail, zip_tail]
  refine lc_map (fun x : α × α => PyData.tuple [e x.1, e x.2]) (fun _ => .bool true) ?_ (fun x hx Q1 q1 => ?_) ?_
  · rw [List.length_zip, sizeLine_eq]
    omega
  · exact ⟨rfl, h _ _ (zip_pw p x hx) _ q1⟩
  · refine rAll_map (fun _ => true) _ ?_
    rw [List.all_eq_true.mpr fun _ _ => rfl]
    exact q
theorem rd_are_rising : ∀ bs Q, sp_are_rising bs Q → w_are_rising { nx := fun _ => Q .none, rt := Q } (bs ++ List.replicate (N_are_rising.length - bs.length) .no) := by
  rintro bs Q ⟨d, rfl, h, q⟩
  rcases h with ⟨l, rfl, hl, p⟩ | ⟨l, rfl, hl, p⟩
  · refine rise (fun i : Nat => .int (i : Int)) p hl (fun x y hxy Q1 q1 => .inl ⟨trivial, ?_⟩) q
    show Q1 (.bool (decide ((x : Int) < (y : Int))))
    rw [decide_eq_true (by omega)]
    exact q1
  · refine rise npr p hl (fun x y hxy Q1 q1 => .inr ?_) q
    show Q1 (.bool (HT.lexLt [(x.1 : Int), (x.2 : Int)] [(y.1 : Int), (y.2 : Int)]))
    rw [HT.lexLt_cons, HT.lexLt_cons]
    rcases hxy with h | ⟨h1, h2⟩
    · rw [if_neg (by omega), decide_eq_true (by omega)]
      exact q1
    · rw [if_pos (by omega), if_neg (by omega), decide_eq_true (by omega)]
      exact q1
theorem rd_is_pair_below : ∀ bs Q, sp_is_pair_below bs Q → w_is_pair_below { nx := fun _ => Q .none, rt := Q } (bs ++ List.replicate (N_is_pair_below.length - bs.length) .no) := by
  rintro bs Q ⟨n, i, j, rfl, hi, hj, hij, q⟩
  refine if_f (or_f (not_s fun Q q => q) (or_f (fun Q q => ⟨trivial, q⟩) (not_s (val_tst fun Q1 q1 => ?_)))) ?_
  · refine val_all (fun i : Nat => PyData.int (i : Int)) (fun _ => true) [i, j] (by show 2 ≤ 1000; decide) (fun Q q => q) (fun x hx Q1 q1 => ?_) _ q1
    have hx' : x < n := by
      rcases List.mem_cons.mp hx with rfl | h
      · exact hi
      · rcases List.mem_cons.mp h with rfl | h
        · exact hj
        · nomatch h
    refine ⟨trivial, rfl, x, 0, (n : Int) - 1, rfl, ?_⟩
    rw [decide_eq_true (by omega), decide_eq_true (by omega)]
    exact q1
  · refine ⟨_, rfl, _, rfl, trivial, ?_⟩
    show Q (.bool (!decide ((i : Int) = (j : Int))))
    rw [decide_eq_false (by omega)]
    exact q
theorem rd_is_seen : ∀ bs Q, sp_is_seen bs Q → w_is_seen { nx := fun _ => Q .none, rt := Q } (bs ++ List.replicate (N_is_seen.length - bs.length) .no) := by
  rintro bs Q ⟨x, hx, rfl, q⟩
  unfold okSeen at hx
  simp only [Bool.and_eq_true, decide_eq_true_eq] at hx
  refine ⟨trivial, _, rfl, trivial, rfl, x.1, 0 - 1000, 1000, rfl, ?_⟩
  rw [decide_eq_true (by omega), decide_eq_true (by omega)]
  refine ⟨_, rfl, rfl, x.2, 1, 1000, rfl, ?_⟩
  rw [decide_eq_true (by omega), decide_eq_true (by omega)]
  exact q
end Qp
set_option maxHeartbeats 2000000
namespace Qp
open PySem PySem.Spec PyProof.Rows L2 Qd
theorem rd__law_of : ∀ n bs Q, sp__law_of n bs Q → w__law_of { nx := fun m _ => Q m .none, rt := Q } n (bs ++ List.replicate (N__law_of.length - bs.length) .no) := by
  rintro n bs Q ⟨ds, rfl, hne, hl, hn, q⟩
  have hp : 0 < ds.length := List.length_pos_iff.mpr hne
  refine ⟨rfl, (ds.length : Int), rfl, by omega, by omega, hn, fun r h0 h1 => ?_⟩
  have hr : r.toNat < ds.length := by omega
  refine ⟨ds[r.toNat], ?_, q _ (List.getElem_mem hr)⟩
  unfold atI
  rw [ixN_in h0 h1]
  exact List.getElem?_eq_getElem hr
end Qp
set_option maxHeartbeats 2000000
namespace Qp
open PySem PySem.Spec PyProof.Rows L2 Qd
/-! ### the pairs of a relation -/
theorem mem_ties {n : Nat} {p : Rel} {x : Nat × Nat} : x ∈ tiesL n p ↔ x.1 < n ∧ x.2 < n ∧ p x.1 x.2 = true := by
  unfold tiesL
  rw [List.mem_flatMap]
  constructor
  · rintro ⟨i, hi, h⟩
    obtain ⟨j, hj, rfl⟩ := List.mem_map.mp h
    obtain ⟨h1, h2⟩ := List.mem_filter.mp hj
    exact ⟨List.mem_range.mp hi, List.mem_range.mp h1, h2⟩
  · rintro ⟨h1, h2, h3⟩
    exact ⟨x.1, List.mem_range.mpr h1, List.mem_map.mpr ⟨x.2, List.mem_filter.mpr ⟨List.mem_range.mpr h2, h3⟩, rfl⟩⟩
abbrev LexN (x y : Nat × Nat) : Prop := x.1 < y.1 ∨ (x.1 = y.1 ∧ x.2 < y.2)
theorem ties_sorted (n : Nat) (p : Rel) : (tiesL n p).Pairwise LexN := by
  unfold tiesL
  rw [List.pairwise_flatMap]
  refine ⟨fun i _ => ?_, ?_⟩
  · rw [List.pairwise_map]
    exact (List.Pairwise.filter _ List.pairwise_lt_range).imp fun h => .inr ⟨rfl, h⟩
  · refine List.pairwise_lt_range.imp fun {a b} h x hx y hy => .inl ?_
    obtain ⟨j, _, rfl⟩ := List.mem_map.mp hx
    obtain ⟨k, _, rfl⟩ := List.mem_map.mp hy
    exact h
theorem ties_nodup (n : Nat) (p : Rel) : (tiesL n p).Nodup := (ties_sorted n p).imp fun {a b} h z => by
  subst z
  rcases h with h | ⟨_, h⟩ <;> omega
/-- the count as a sum -/
def cnt (b : Bool) : Nat := if b then 1 else 0
def sumK (f : Nat → Nat) : Nat → Nat
  | 0 => 0
  | n + 1 => sumK f n + f n
theorem filter_len (f : Nat → Bool) : ∀ n : Nat, ((List.range n).filter f).length = sumK (fun j => cnt (f j)) n
  | 0 => rfl
  | n + 1 => by
    rw [List.range_succ, List.filter_append, List.length_append, filter_len f n]
    show _ = sumK _ n + cnt (f n)
    congr 1
    by_cases h : f n = true
    · rw [List.filter_cons_of_pos h, h]; rfl
    · rw [List.filter_cons_of_neg h, Bool.eq_false_iff.mpr h]; rfl
theorem ties_len (n : Nat) (p : Rel) : ∀ m : Nat, ((List.range m).flatMap fun i => ((List.range n).filter (p i)).map fun j => (i, j)).length = sumK (fun i => sumK (fun j => cnt (p i j)) n) m
  | 0 => rfl
  | m + 1 => by
    rw [List.range_succ, List.flatMap_append, List.length_append, ties_len n p m, List.flatMap_cons, List.flatMap_nil, List.append_nil, List.length_map, filter_len]
    rfl
theorem sumK_add (f g : Nat → Nat) : ∀ n, sumK (fun i => f i + g i) n = sumK f n + sumK g n
  | 0 => rfl
  | n + 1 => by
    show sumK (fun i => f i + g i) n + (f n + g n) = (sumK f n + f n) + (sumK g n + g n)
    rw [sumK_add f g n]
    omega
theorem sumK_le {f g : Nat → Nat} : ∀ {n}, (∀ i, i < n → f i ≤ g i) → sumK f n ≤ sumK g n
  | 0, _ => Nat.le_refl _
  | n + 1, h => Nat.add_le_add (sumK_le fun i hi => h i (by omega)) (h n (by omega))
theorem sumK_const (c : Nat) : ∀ n, sumK (fun _ => c) n = n * c
  | 0 => by rw [Nat.zero_mul]; rfl
  | n + 1 => by rw [Nat.succ_mul, ← sumK_const c n]; rfl
theorem sq_step (p : Rel) (n : Nat) : sumK (fun i => sumK (fun j => cnt (p i j)) (n + 1)) (n + 1) = sumK (fun i => sumK (fun j => cnt (p i j)) n) n + sumK (fun i => cnt (p i n) + cnt (p n i)) n + cnt (p n n) := by
  show sumK (fun i => sumK (fun j => cnt (p i j)) n + cnt (p i n)) n + (sumK (fun j => cnt (p n j)) n + cnt (p n n)) = _
  rw [sumK_add, sumK_add (fun i => cnt (p i n))]
  omega
theorem cnt_le (b : Bool) : cnt b ≤ 1 := by cases b <;> decide
theorem anti_len (p : Rel) (irr : ∀ i, p i i = false) (anti : ∀ i j, p i j = true → p j i = false) : ∀ n : Nat, 2 * sumK (fun i => sumK (fun j => cnt (p i j)) n) n + n ≤ n * n
  | 0 => Nat.le_refl _
  | n + 1 => by
    have ih := anti_len p irr anti n
    have h1 : sumK (fun i => cnt (p i n) + cnt (p n i)) n ≤ n * 1 := by
      rw [← sumK_const 1 n]
      refine sumK_le fun i _ => ?_
      cases h : p i n with
      | true => rw [anti i n h]; decide
      | false => have := cnt_le (p n i); show 0 + _ ≤ 1; omega
    rw [sq_step, irr n]
    have e : (n + 1) * (n + 1) = n * n + 2 * n + 1 := by rw [Nat.add_mul, Nat.mul_add]; omega
    have h0 : cnt false = 0 := rfl
    omega
theorem ties_45 {F : Fld} (h : WF F) : (tiesL F.n F.lt).length ≤ 45 := by
  have anti : ∀ i j, F.lt i j = true → F.lt j i = false := fun i j hij => by
    cases e : F.lt j i with
    | false => rfl
    | true =>
      have := h.tr i j i hij e
      rw [h.irr i] at this
      cases this
  have h1 := anti_len F.lt h.irr anti F.n
  have h2 := ties_len F.n F.lt F.n
  have h3 := h.n
  unfold tiesL
  rw [h2]
  generalize sumK (fun i => sumK (fun j => cnt (F.lt i j)) F.n) F.n = z at h1 ⊢
  have h4 : F.n * F.n ≤ 9 * F.n + F.n := by
    have : F.n * F.n ≤ 10 * F.n := Nat.mul_le_mul_right _ h3
    omega
  have h5 : 2 * z ≤ F.n * F.n - F.n := by omega
  have h6 : F.n * F.n - F.n = F.n * (F.n - 1) := by rw [Nat.mul_sub_one]
  have h7 : F.n * (F.n - 1) ≤ 10 * 9 := Nat.mul_le_mul h3 (by omega)
  omega
theorem ties_100 {n : Nat} (p : Rel) (h : n ≤ 10) : (tiesL n p).length ≤ 100 := by
  unfold tiesL
  rw [ties_len]
  have h1 : sumK (fun i => sumK (fun j => cnt (p i j)) n) n ≤ sumK (fun _ => n) n := sumK_le fun i _ => by
    have : sumK (fun j => cnt (p i j)) n ≤ sumK (fun _ => 1) n := sumK_le fun j _ => cnt_le _
    rw [sumK_const] at this
    omega
  rw [sumK_const] at h1
  have : n * n ≤ 10 * 10 := Nat.mul_le_mul h h
  omega
end Qp
set_option maxHeartbeats 2000000
namespace Qp
open PySem PySem.Spec PyProof.Rows L2 Qd
/-! ### closures -/
inductive Pth (p : Rel) : Nat → Nat → Prop
  | one {i j : Nat} : p i j = true → Pth p i j
  | cons {i j k : Nat} : p i j = true → Pth p j k → Pth p i k
theorem Pth.trans {p : Rel} {i j k : Nat} (h : Pth p i j) (g : Pth p j k) : Pth p i k := by
  induction h with
  | one e => exact .cons e g
  | cons e _ ih => exact .cons e (ih g)
theorem Pth.mono {p q : Rel} (h : ∀ i j, p i j = true → Pth q i j) {i j : Nat} (g : Pth p i j) : Pth q i j := by
  induction g with
  | one e => exact h _ _ e
  | cons e _ ih => exact (h _ _ e).trans ih
theorem stepW_iff {p : Rel} {k i j : Nat} : stepW p k i j = true ↔ p i j = true ∨ (p i k = true ∧ p k j = true) := by
  unfold stepW
  rw [Bool.or_eq_true, Bool.and_eq_true]
theorem clo_sound {p : Rel} : ∀ {n i j : Nat}, clo n p i j = true → Pth p i j
  | 0, i, j, h => .one h
  | n + 1, i, j, h => by
    rcases stepW_iff.mp h with h | ⟨h1, h2⟩
    · exact clo_sound h
    · exact (clo_sound h1).trans (clo_sound h2)
theorem clo_up {p : Rel} {i j : Nat} (h : p i j = true) : ∀ n, clo n p i j = true
  | 0 => h
  | n + 1 => stepW_iff.mpr (.inl (clo_up h n))
theorem clo_tr {p : Rel} : ∀ {n m i j : Nat}, m < n → clo n p i m = true → clo n p m j = true → clo n p i j = true
  | n + 1, m, i, j, hm, h1, h2 => by
    show stepW (clo n p) n i j = true
    have ih : ∀ {m i j : Nat}, m < n → clo n p i m = true → clo n p m j = true → clo n p i j = true := fun h a b => clo_tr h a b
    rw [stepW_iff]
    by_cases e : m = n
    · subst e
      have a : clo m p i m = true := by rcases stepW_iff.mp h1 with h | ⟨h, _⟩ <;> exact h
      have b : clo m p m j = true := by rcases stepW_iff.mp h2 with h | ⟨_, h⟩ <;> exact h
      exact .inr ⟨a, b⟩
    · have hm' : m < n := by omega
      rcases stepW_iff.mp h1 with h1 | ⟨h1, h1'⟩ <;> rcases stepW_iff.mp h2 with h2 | ⟨h2, h2'⟩
      · exact .inl (ih hm' h1 h2)
      · exact .inr ⟨ih hm' h1 h2, h2'⟩
      · exact .inr ⟨h1, ih hm' h1' h2⟩
      · exact .inr ⟨h1, h2'⟩
theorem clo_iff {p : Rel} {n : Nat} (hr : ∀ i j, p i j = true → i < n ∧ j < n) {i j : Nat} : clo n p i j = true ↔ Pth p i j := by
  refine ⟨clo_sound, fun h => ?_⟩
  induction h with
  | one e => exact clo_up e n
  | cons e _ ih => exact clo_tr (hr _ _ e).2 (clo_up e n) ih
theorem clo_rng {p : Rel} {n : Nat} (hr : ∀ i j, p i j = true → i < n ∧ j < n) {i j : Nat} (h : clo n p i j = true) : i < n ∧ j < n := by
  have g := clo_sound h
  clear h
  induction g with
  | one e => exact hr _ _ e
  | cons e _ ih => exact ⟨(hr _ _ e).1, ih.2⟩
theorem bool_ext {a b : Bool} (h : a = true ↔ b = true) : a = b := by
  cases a <;> cases b <;> simp_all
theorem rel_ext {p q : Rel} (h : ∀ i j, p i j = true ↔ q i j = true) : p = q := funext fun i => funext fun j => bool_ext (h i j)
theorem pth_tr {p : Rel} (ht : ∀ i j k, p i j = true → p j k = true → p i k = true) {i j : Nat} (h : Pth p i j) : p i j = true := by
  induction h with
  | one e => exact e
  | cons e _ ih => exact ht _ _ _ e ih
/-- a closed relation stays as it is -/
theorem clo_self {p : Rel} {n : Nat} (hr : ∀ i j, p i j = true → i < n ∧ j < n) (ht : ∀ i j k, p i j = true → p j k = true → p i k = true) : clo n p = p :=
  rel_ext fun i j => ⟨fun h => pth_tr ht (clo_sound h), fun h => clo_up h n⟩
theorem ties_congr {n : Nat} {p q : Rel} (h : ∀ i j, i < n → j < n → p i j = q i j) : tiesL n p = tiesL n q := by
  unfold tiesL
  have : ∀ i ∈ List.range n, ((List.range n).filter (p i)).map (fun j => (i, j)) = ((List.range n).filter (q i)).map fun j => (i, j) := fun i hi => by
    rw [List.filter_congr fun j hj => h i j (List.mem_range.mp hi) (List.mem_range.mp hj)]
  rw [List.flatMap_def, List.flatMap_def, List.map_congr_left this]
theorem checked_some {n : Nat} {p : Rel} {s : List (Int × Int)} {F : Fld} (h : checked n p s = some F) : n ≤ 10 ∧ (∀ x ∈ s, okSeen x = true) ∧ (∀ i, i < n → clo n p i i = false) ∧ F = ⟨n, clo n p, s⟩ := by
  unfold checked at h
  split at h
  · rename_i c
    obtain ⟨h1, h2, h3⟩ := c
    cases h
    refine ⟨h1, List.all_eq_true.mp h2, fun i hi => ?_, rfl⟩
    have := List.all_eq_true.mp h3 i (List.mem_range.mpr hi)
    cases e : clo n p i i with
    | false => rfl
    | true => rw [e] at this; cases this
  · cases h
theorem checked_wf {n : Nat} {p : Rel} {s : List (Int × Int)} {F : Fld} (hr : ∀ i j, p i j = true → i < n ∧ j < n) (hs : s.length = n) (h : checked n p s = some F) : WF F := by
  obtain ⟨h1, h2, h3, rfl⟩ := checked_some h
  refine ⟨h1, hs, h2, fun i j e => clo_rng hr e, fun i => ?_, fun i j k a b => clo_tr (clo_rng hr a).2 a b⟩
  show clo n p i i = false
  cases e : clo n p i i with
  | false => rfl
  | true => rw [h3 i (clo_rng hr e).1] at e; cases e
theorem memR_iff {l : List (Nat × Nat)} {i j : Nat} : memR l i j = true ↔ (i, j) ∈ l := by
  unfold memR
  rw [List.contains_iff_mem]
theorem memR_ties {F : Fld} (h : WF F) : memR (tiesL F.n F.lt) = F.lt := rel_ext fun i j => by
  rw [memR_iff, mem_ties]
  exact ⟨fun x => x.2.2, fun x => ⟨(h.rng i j x).1, (h.rng i j x).2, x⟩⟩
theorem relU_rng {A B : Fld} (ha : WF A) (hb : WF B) {b : Bool} : ∀ i j, relU A B b i j = true → i < A.n + B.n ∧ j < A.n + B.n := fun i j h => by
  unfold relU at h
  split at h
  · split at h
    · omega
    · rw [Bool.and_eq_true, decide_eq_true_eq] at h
      omega
  · split at h
    · cases h
    · have := hb.rng _ _ h
      omega
theorem relU_tr {A B : Fld} (ha : WF A) (hb : WF B) {b : Bool} : ∀ i j k, relU A B b i j = true → relU A B b j k = true → relU A B b i k = true := fun i j k h1 h2 => by
  have hk := (relU_rng ha hb j k h2).2
  unfold relU at h1 h2 ⊢
  by_cases hi : i < A.n
  · rw [if_pos hi] at h1 ⊢
    by_cases hj : j < A.n
    · rw [if_pos hj] at h1 h2
      by_cases hk' : k < A.n
      · rw [if_pos hk'] at h2 ⊢
        exact ha.tr _ _ _ h1 h2
      · rw [if_neg hk'] at h2 ⊢
        exact h2
    · rw [if_neg hj] at h1 h2
      by_cases hk' : k < A.n
      · rw [if_pos hk'] at h2
        cases h2
      · rw [if_neg hk']
        rw [Bool.and_eq_true] at h1 ⊢
        exact ⟨h1.1, by rw [decide_eq_true_eq]; exact hk⟩
  · rw [if_neg hi] at h1 ⊢
    by_cases hj : j < A.n
    · rw [if_pos hj] at h1
      cases h1
    · rw [if_neg hj] at h1 h2
      by_cases hk' : k < A.n
      · rw [if_pos hk'] at h2
        cases h2
      · rw [if_neg hk'] at h2 ⊢
        exact hb.tr _ _ _ h1 h2
/-- the law's sum of two fields is the program's -/
theorem two_laid {A B F : Fld} {b : Bool} (ha : WF A) (hb : WF B) (h : two A B b = some F) : F = laidF A B b ∧ WF F := by
  have hw := checked_wf (relU_rng ha hb) (by rw [List.length_append, ha.s, hb.s]) h
  obtain ⟨_, _, _, rfl⟩ := checked_some h
  refine ⟨?_, hw⟩
  unfold laidF
  rw [clo_self (relU_rng ha hb) (relU_tr ha hb)]
end Qp
set_option maxHeartbeats 2000000
namespace Qp
open PySem PySem.Spec PyProof.Rows L2 Qd
/-! ### the fields of good terms are good -/
theorem flip_rng {A : Fld} (h : WF A) : ∀ i j, flipR A.lt i j = true → i < A.n ∧ j < A.n := fun i j e => ⟨(h.rng j i e).2, (h.rng j i e).1⟩
theorem flip_tr {A : Fld} (h : WF A) : ∀ i j k, flipR A.lt i j = true → flipR A.lt j k = true → flipR A.lt i k = true := fun i j k a b => h.tr k j i b a
theorem add_rng {A : Fld} (h : WF A) {a b : Nat} (ha : a < A.n) (hb : b < A.n) : ∀ i j, addR A.lt a b i j = true → i < A.n ∧ j < A.n := fun i j e => by
  unfold addR at e
  rw [Bool.or_eq_true, Bool.and_eq_true, decide_eq_true_eq, decide_eq_true_eq] at e
  rcases e with e | ⟨rfl, rfl⟩
  · exact h.rng i j e
  · exact ⟨ha, hb⟩
theorem sub_iff {p : Rel} {l : List Nat} {i j : Nat} : subR p l i j = true ↔ ∃ a b, l[i]? = some a ∧ l[j]? = some b ∧ p a b = true := by
  unfold subR
  constructor
  · intro h
    split at h
    · rename_i a b e1 e2
      exact ⟨a, b, e1, e2, h⟩
    · cases h
  · rintro ⟨a, b, e1, e2, h⟩
    rw [e1, e2]
    exact h
theorem sub_rng {p : Rel} {l : List Nat} : ∀ i j, subR p l i j = true → i < l.length ∧ j < l.length := fun i j h => by
  obtain ⟨a, b, e1, e2, _⟩ := sub_iff.mp h
  exact ⟨(List.getElem?_eq_some_iff.mp e1).1, (List.getElem?_eq_some_iff.mp e2).1⟩
theorem sub_tr {A : Fld} (h : WF A) {l : List Nat} : ∀ i j k, subR A.lt l i j = true → subR A.lt l j k = true → subR A.lt l i k = true := fun i j k x y => by
  obtain ⟨a, b, e1, e2, e3⟩ := sub_iff.mp x
  obtain ⟨b', c, f1, f2, f3⟩ := sub_iff.mp y
  rw [e2] at f1
  cases f1
  exact sub_iff.mpr ⟨a, c, e1, f2, h.tr _ _ _ e3 f3⟩
theorem row_none {A : Fld} : ∀ k, rowN A k none = none
  | 0 => rfl
  | k + 1 => row_none k
theorem row_wf {A : Fld} (h : WF A) : ∀ {k : Nat} {F0 F : Fld}, WF F0 → rowN A k (some F0) = some F → WF F
  | 0, F0, F, h0, e => by cases e; exact h0
  | k + 1, F0, F, h0, e => by
    have e : rowN A k (two F0 A true) = some F := e
    cases z : two F0 A true with
    | none => rw [z, row_none] at e; cases e
    | some F1 =>
      rw [z] at e
      exact row_wf h (two_laid h0 h z).2 e
theorem denO_wf {A F : Fld} {o : Op} (h : WF A) (e : denO A o = some F) : WF F := by
  cases o with
  | row k => exact row_wf h h e
  | turned => exact checked_wf (flip_rng h) (by rw [List.length_map]; exact h.s) e
  | moved d => exact checked_wf h.rng (by rw [List.length_map]; exact h.s) e
  | times k => exact checked_wf h.rng (by rw [List.length_map]; exact h.s) e
  | tied i j =>
    have e : (if i < A.n ∧ j < A.n then checked A.n (addR A.lt i j) A.s else none) = some F := e
    split at e
    · rename_i c
      exact checked_wf (add_rng h c.1 c.2) h.s e
    · cases e
  | only l =>
    have e : (if l.all (fun i => decide (i < A.n)) = true then checked l.length (subR A.lt l) (l.map fun i => A.s.getD i (0, 0)) else none) = some F := e
    split at e
    · exact checked_wf sub_rng (by rw [List.length_map]) e
    · cases e
theorem den_wf : ∀ {t : Tm} {F : Fld}, form t → den t = some F → WF F
  | .thing w h, F, f, e => by
    cases e
    exact ⟨(by decide : 1 ≤ 10), rfl, (fun x hx => by rw [List.mem_singleton.mp hx]; exact f), (fun _ _ z => nomatch (show false = true from z)), (fun _ => rfl), (fun _ _ _ z _ => nomatch (show false = true from z))⟩
  | .nil, F, f, e => by
    cases e
    exact ⟨(by decide : 0 ≤ 10), rfl, (fun x hx => nomatch hx), (fun _ _ z => nomatch (show false = true from z)), (fun _ => rfl), (fun _ _ _ z _ => nomatch (show false = true from z))⟩
  | .dbl u a b, F, f, e => by
    have e : ((den a).bind fun A => (den b).bind fun B => two A B u) = some F := e
    obtain ⟨A, ea, e⟩ := Option.bind_eq_some_iff.mp e
    obtain ⟨B, eb, e⟩ := Option.bind_eq_some_iff.mp e
    exact (two_laid (den_wf f.1 ea) (den_wf f.2 eb) e).2
  | .one o a, F, f, e => by
    have e : ((den a).bind fun A => denO A o) = some F := e
    obtain ⟨A, ea, e⟩ := Option.bind_eq_some_iff.mp e
    exact denO_wf (den_wf f.2 ea) e
theorem Good.wf {t : Tm} {F : Fld} (h : Good t F) : WF F := den_wf h.form h.den
/-- one-field words, as the program answers -/
theorem turned_eq {A F : Fld} (h : WF A) (e : denO A .turned = some F) : F = ⟨A.n, flipR A.lt, A.s.map fun x => (0 - x.1, x.2)⟩ := by
  obtain ⟨_, _, _, rfl⟩ := checked_some e
  rw [clo_self (flip_rng h) (flip_tr h)]
theorem moved_eq {A F : Fld} {d : Int} (h : WF A) (e : denO A (.moved d) = some F) : F = ⟨A.n, A.lt, A.s.map fun x => (x.1 + d, x.2)⟩ := by
  obtain ⟨_, _, _, rfl⟩ := checked_some e
  rw [clo_self h.rng h.tr]
theorem times_eq {A F : Fld} {k : Nat} (h : WF A) (e : denO A (.times k) = some F) : F = ⟨A.n, A.lt, A.s.map fun x => (x.1, x.2 * (k : Int))⟩ := by
  obtain ⟨_, _, _, rfl⟩ := checked_some e
  rw [clo_self h.rng h.tr]
theorem tied_eq {A F : Fld} {i j : Nat} (h : WF A) (e : denO A (.tied i j) = some F) : i < A.n ∧ j < A.n ∧ F = ⟨A.n, clo A.n (addR A.lt i j), A.s⟩ := by
  have e : (if i < A.n ∧ j < A.n then checked A.n (addR A.lt i j) A.s else none) = some F := e
  split at e
  · rename_i c
    obtain ⟨_, _, _, rfl⟩ := checked_some e
    exact ⟨c.1, c.2, rfl⟩
  · cases e
theorem only_eq {A F : Fld} {l : List Nat} (h : WF A) (e : denO A (.only l) = some F) : (∀ i ∈ l, i < A.n) ∧ F = ⟨l.length, subR A.lt l, l.map fun i => A.s.getD i (0, 0)⟩ := by
  have e : (if l.all (fun i => decide (i < A.n)) = true then checked l.length (subR A.lt l) (l.map fun i => A.s.getD i (0, 0)) else none) = some F := e
  split at e
  · rename_i c
    obtain ⟨_, _, _, rfl⟩ := checked_some e
    rw [clo_self sub_rng (sub_tr h)]
    exact ⟨fun i hi => of_decide_eq_true (List.all_eq_true.mp c i hi), rfl⟩
  · cases e
end Qp
set_option maxHeartbeats 2000000
namespace Qp
open PySem PySem.Spec PyProof.Rows L2 Qd
/-! ### tables -/
theorem sumN_congr {f g : Nat → Int} : ∀ {n}, (∀ i, i < n → f i = g i) → sumN f n = sumN g n
  | 0, _ => rfl
  | n + 1, h => by
    show sumN f n + f n = sumN g n + g n
    rw [sumN_congr fun i hi => h i (by omega), h n (by omega)]
theorem sumN_split (f : Nat → Int) (m : Nat) : ∀ n, sumN f (m + n) = sumN f m + sumN (fun i => f (m + i)) n
  | 0 => by show sumN f m = sumN f m + 0; omega
  | n + 1 => by
    show sumN f (m + n) + f (m + n) = sumN f m + (sumN (fun i => f (m + i)) n + f (m + n))
    rw [sumN_split f m n]
    omega
theorem sumN_mul (c : Int) (f : Nat → Int) : ∀ n, sumN (fun i => c * f i) n = c * sumN f n
  | 0 => by show (0 : Int) = c * 0; omega
  | n + 1 => by
    show sumN (fun i => c * f i) n + c * f n = c * (sumN f n + f n)
    rw [sumN_mul c f n, Int.mul_add]
theorem gain_congr {F : Fld} {a b : Int} {U V : Nat → Bool} (h : ∀ i, i < F.n → U i = V i) : gain F a b U = gain F a b V := sumN_congr fun i hi => by rw [h i hi]
theorem red_eq {p q p' q' : Int} (hq : 0 < q) (hq' : 0 < q') (c : Int.gcd p q = 1) (c' : Int.gcd p' q' = 1) (e : p * q' = p' * q) : p = p' ∧ q = q' := by
  have h1 : q.natAbs ∣ q'.natAbs := by
    refine Nat.Coprime.dvd_of_dvd_mul_left (k := q.natAbs) (m := p.natAbs) ?_ ?_
    · rw [Nat.coprime_comm]; exact c
    · rw [← Int.natAbs_mul, e, Int.natAbs_mul]
      exact Nat.dvd_mul_left ..
  have h2 : q'.natAbs ∣ q.natAbs := by
    refine Nat.Coprime.dvd_of_dvd_mul_left (k := q'.natAbs) (m := p'.natAbs) ?_ ?_
    · rw [Nat.coprime_comm]; exact c'
    · rw [← Int.natAbs_mul, ← e, Int.natAbs_mul]
      exact Nat.dvd_mul_left ..
  have h3 := Nat.dvd_antisymm h1 h2
  have h4 : q = q' := by omega
  refine ⟨?_, h4⟩
  subst h4
  exact Int.eq_of_mul_eq_mul_right (by omega) e
theorem tab_same {F : Fld} {g g' : List (Int × Int)} (h : IsTab F g) (h' : IsTab F g') {a b : Int} (hb : 0 < b) {i : Nat} (hi : i < F.n) (e : atLeast g a b i = true) : atLeast g' a b i = true := by
  have m1 := h.most a b hb _ (h'.up a b hb)
  have m2 := h'.most a b hb _ (h.up a b hb)
  exact m2.2 (by omega) i hi e
theorem tab_le {F : Fld} {g g' : List (Int × Int)} (h : IsTab F g) (h' : IsTab F g') {i : Nat} (hi : i < F.n) (h1 : i < g.length) (h2 : i < g'.length) : g[i].1 * g'[i].2 ≤ g'[i].1 * g[i].2 := by
  have e1 : g.getD i (0, 1) = g[i] := by rw [List.getD_eq_getElem?_getD, List.getElem?_eq_getElem h1]; rfl
  have e2 : g'.getD i (0, 1) = g'[i] := by rw [List.getD_eq_getElem?_getD, List.getElem?_eq_getElem h2]; rfl
  have hq := (h.red _ (List.getElem_mem h1)).1
  have := tab_same h h' (a := g[i].1) (b := g[i].2) hq hi (by unfold atLeast; rw [e1]; exact decide_eq_true (Int.le_refl _))
  unfold atLeast at this
  rw [e2] at this
  exact of_decide_eq_true this
theorem tab_uniq {F : Fld} {g g' : List (Int × Int)} (h : IsTab F g) (h' : IsTab F g') : g = g' := by
  refine List.ext_getElem (by rw [h.len, h'.len]) fun i h1 h2 => ?_
  have hi : i < F.n := by rw [← h.len]; exact h1
  have l1 := tab_le h h' hi h1 h2
  have l2 := tab_le h' h hi h2 h1
  obtain ⟨q1, _, c1⟩ := h.red _ (List.getElem_mem h1)
  obtain ⟨q2, _, c2⟩ := h'.red _ (List.getElem_mem h2)
  obtain ⟨x, y⟩ := red_eq q1 q2 c1 c2 (by omega)
  exact Prod.ext x y
theorem getD_app {α : Type} (d : α) (g h : List α) (i : Nat) : (g ++ h).getD i d = if i < g.length then g.getD i d else h.getD (i - g.length) d := by
  rw [List.getD_eq_getElem?_getD, List.getElem?_append]
  split
  · rw [List.getD_eq_getElem?_getD]
  · rw [List.getD_eq_getElem?_getD]
theorem atLeast_app {g h : List (Int × Int)} {a b : Int} {i : Nat} : atLeast (g ++ h) a b i = if i < g.length then atLeast g a b i else atLeast h a b (i - g.length) := by
  unfold atLeast
  rw [getD_app]
  split <;> rfl
theorem gain_laid {A B : Fld} {u : Bool} (hs : A.s.length = A.n) {a b : Int} {U : Nat → Bool} : gain (laidF A B u) a b U = gain A a b U + gain B a b fun i => U (A.n + i) := by
  show sumN (fun i => if U i then ((A.s ++ B.s).getD i (0, 0)).2 * (((A.s ++ B.s).getD i (0, 0)).1 * b - a) else 0) (A.n + B.n) = _
  rw [sumN_split]
  unfold gain
  congr 1
  · refine sumN_congr fun i hi => ?_
    have e : (A.s ++ B.s).getD i (0, 0) = A.s.getD i (0, 0) := by rw [getD_app, if_pos (by omega)]
    rw [e]
  · refine sumN_congr fun i hi => ?_
    have e : (A.s ++ B.s).getD (A.n + i) (0, 0) = B.s.getD i (0, 0) := by rw [getD_app, if_neg (by omega), hs, show A.n + i - A.n = i by omega]
    rw [e]
theorem tab_laid {A B : Fld} {u : Bool} {g h : List (Int × Int)} (ha : WF A) (hb : WF B) (hA : IsTab A g) (hB : IsTab B h) (hup : ∀ a b, 0 < b → UpS (laidF A B u) (atLeast (g ++ h) a b)) : IsTab (laidF A B u) (g ++ h) := by
  refine ⟨by rw [List.length_append, hA.len, hB.len]; rfl, fun x hx => ?_, hup, fun a b hb0 U hU => ?_⟩
  · rcases List.mem_append.mp hx with hx | hx
    · exact hA.red x hx
    · exact hB.red x hx
  · have uA : UpS A U := fun i j hij => hU i j (by
      have := ha.rng i j hij
      show relU A B u i j = true
      unfold relU
      rw [if_pos this.1, if_pos this.2]
      exact hij)
    have uB : UpS B fun i => U (A.n + i) := fun i j hij => hU (A.n + i) (A.n + j) (by
      show relU A B u (A.n + i) (A.n + j) = true
      unfold relU
      rw [if_neg (by omega), if_neg (by omega), show A.n + i - A.n = i by omega, show A.n + j - A.n = j by omega]
      exact hij)
    have e1 : gain A a b (atLeast (g ++ h) a b) = gain A a b (atLeast g a b) := gain_congr fun i hi => by
      rw [atLeast_app, if_pos (by rw [hA.len]; exact hi)]
    have e2 : gain B a b (fun i => atLeast (g ++ h) a b (A.n + i)) = gain B a b (atLeast h a b) := gain_congr fun i hi => by
      show atLeast (g ++ h) a b (A.n + i) = _
      rw [atLeast_app, if_neg (by rw [hA.len]; omega), hA.len, show A.n + i - A.n = i by omega]
    obtain ⟨l1, s1⟩ := hA.most a b hb0 U uA
    obtain ⟨l2, s2⟩ := hB.most a b hb0 _ uB
    rw [gain_laid ha.s, gain_laid ha.s, e1, e2]
    refine ⟨by omega, fun e i hi hUi => ?_⟩
    rw [atLeast_app, hA.len]
    by_cases c : i < A.n
    · rw [if_pos c]
      exact s1 (by omega) i c hUi
    · rw [if_neg c]
      have hi : i < A.n + B.n := hi
      refine s2 (by omega) (i - A.n) (by omega) ?_
      show U (A.n + (i - A.n)) = true
      rw [show A.n + (i - A.n) = i by omega]
      exact hUi
theorem tab_beside {A B : Fld} {g h : List (Int × Int)} (ha : WF A) (hb : WF B) (hA : IsTab A g) (hB : IsTab B h) : IsTab (laidF A B false) (g ++ h) := by
  refine tab_laid ha hb hA hB fun a b hb0 i j hij hi => ?_
  have hij : relU A B false i j = true := hij
  unfold relU at hij
  rw [atLeast_app, hA.len] at hi ⊢
  by_cases c : i < A.n
  · rw [if_pos c] at hij hi
    by_cases d : j < A.n
    · rw [if_pos d] at hij ⊢
      exact hA.up a b hb0 i j hij hi
    · rw [if_neg d] at hij
      cases hij
  · rw [if_neg c] at hij hi
    by_cases d : j < A.n
    · rw [if_pos d] at hij
      cases hij
    · rw [if_neg d] at hij ⊢
      exact hB.up a b hb0 _ _ hij hi
/-- no guess of the lower over one of the upper -/
theorem tab_below {A B : Fld} {g h : List (Int × Int)} (ha : WF A) (hb : WF B) (hA : IsTab A g) (hB : IsTab B h) (hf : ∀ x ∈ g, ∀ y ∈ h, x.1 * y.2 ≤ y.1 * x.2) : IsTab (laidF A B true) (g ++ h) := by
  refine tab_laid ha hb hA hB fun a b hb0 i j hij hi => ?_
  have hij : relU A B true i j = true := hij
  unfold relU at hij
  rw [atLeast_app, hA.len] at hi ⊢
  by_cases c : i < A.n
  · rw [if_pos c] at hij hi
    by_cases d : j < A.n
    · rw [if_pos d] at hij ⊢
      exact hA.up a b hb0 i j hij hi
    · rw [if_neg d] at hij ⊢
      rw [Bool.true_and, decide_eq_true_eq] at hij
      have h1 : i < g.length := by rw [hA.len]; exact c
      have h2 : j - A.n < h.length := by rw [hB.len]; omega
      unfold atLeast at hi ⊢
      rw [List.getD_eq_getElem?_getD, List.getElem?_eq_getElem h1] at hi
      rw [List.getD_eq_getElem?_getD, List.getElem?_eq_getElem h2]
      have hi : a * g[i].2 ≤ g[i].1 * b := of_decide_eq_true hi
      have hle := hf _ (List.getElem_mem h1) _ (List.getElem_mem h2)
      obtain ⟨q1, _, _⟩ := hA.red _ (List.getElem_mem h1)
      obtain ⟨q2, _, _⟩ := hB.red _ (List.getElem_mem h2)
      refine decide_eq_true ?_
      show a * h[j - A.n].2 ≤ h[j - A.n].1 * b
      generalize g[i].1 = p at hi hle
      generalize g[i].2 = q at hi hle q1
      generalize h[j - A.n].1 = r at hle ⊢
      generalize h[j - A.n].2 = s at hle q2 ⊢
      refine Int.le_of_mul_le_mul_right (?_ : a * s * q ≤ r * b * q) q1
      have x1 : a * q * s ≤ p * b * s := Int.mul_le_mul_of_nonneg_right hi (by omega)
      have x2 : p * s * b ≤ r * q * b := Int.mul_le_mul_of_nonneg_right hle (by omega)
      have y1 : a * s * q = a * q * s := by rw [Int.mul_assoc, Int.mul_comm s q, ← Int.mul_assoc]
      have y2 : p * b * s = p * s * b := by rw [Int.mul_assoc, Int.mul_comm b s, ← Int.mul_assoc]
      have y3 : r * b * q = r * q * b := by rw [Int.mul_assoc, Int.mul_comm b q, ← Int.mul_assoc]
      omega
  · rw [if_neg c] at hij hi
    by_cases d : j < A.n
    · rw [if_pos d] at hij
      cases hij
    · rw [if_neg d] at hij ⊢
      exact hB.up a b hb0 _ _ hij hi
theorem tab_times {A : Fld} {k : Nat} {g : List (Int × Int)} (hk : 0 < k) (hA : IsTab A g) : IsTab ⟨A.n, A.lt, A.s.map fun x => (x.1, x.2 * (k : Int))⟩ g := by
  have eg : ∀ a b U, gain ⟨A.n, A.lt, A.s.map fun x => (x.1, x.2 * (k : Int))⟩ a b U = (k : Int) * gain A a b U := fun a b U => by
    unfold gain
    rw [← sumN_mul]
    refine sumN_congr fun i hi => ?_
    have e : (A.s.map fun x => (x.1, x.2 * (k : Int))).getD i (0, 0) = ((A.s.getD i (0, 0)).1, (A.s.getD i (0, 0)).2 * (k : Int)) := by
      rw [List.getD_eq_getElem?_getD, List.getD_eq_getElem?_getD, List.getElem?_map]
      cases A.s[i]? with
      | none => show ((0 : Int), (0 : Int)) = (0, 0 * (k : Int)); rw [Int.zero_mul]
      | some x => rfl
    show (if U i then (List.getD _ i (0, 0)).2 * ((List.getD _ i (0, 0)).1 * b - a) else 0) = _
    rw [e]
    split
    · show _ * (k : Int) * _ = (k : Int) * (_ * _)
      rw [Int.mul_comm _ (k : Int), Int.mul_assoc]
    · rw [Int.mul_zero]
  refine ⟨hA.len, hA.red, hA.up, fun a b hb U hU => ?_⟩
  obtain ⟨l, s⟩ := hA.most a b hb U hU
  rw [eg, eg]
  refine ⟨Int.mul_le_mul_of_nonneg_left l (by omega), fun e => s (Int.eq_of_mul_eq_mul_left (by omega) e)⟩
end Qp
set_option maxHeartbeats 2000000
namespace Qp
open PySem PySem.Spec PyProof.Rows L2 Qd
/-! ### lots -/
theorem lots_ok : ∀ {n : Nat} {lot : List Nat}, lot ∈ lotsL n → LotOk n lot
  | 0, lot, h => by
    have h : lot ∈ [([] : List Nat)] := h
    rw [List.mem_singleton.mp h]
    exact ⟨(fun _ z => nomatch z), .nil⟩
  | n + 1, lot, h => by
    have h : lot ∈ lotsL n ++ (lotsL n).map fun l => l ++ [n] := h
    rcases List.mem_append.mp h with h | h
    · obtain ⟨a, b⟩ := lots_ok h
      exact ⟨fun i hi => Nat.lt_succ_of_lt (a i hi), b⟩
    · obtain ⟨l, hl, rfl⟩ := List.mem_map.mp h
      obtain ⟨a, b⟩ := lots_ok hl
      refine ⟨fun i hi => ?_, List.pairwise_append.mpr ⟨b, List.pairwise_singleton _ _, fun x hx y hy => ?_⟩⟩
      · rcases List.mem_append.mp hi with hi | hi
        · exact Nat.lt_succ_of_lt (a i hi)
        · rw [List.mem_singleton.mp hi]
          exact Nat.lt_succ_self n
      · rw [List.mem_singleton.mp hy]
        exact a x hx
theorem lots_mem (U : Nat → Bool) : ∀ n : Nat, (List.range n).filter U ∈ lotsL n
  | 0 => List.mem_singleton.mpr rfl
  | n + 1 => by
    rw [List.range_succ, List.filter_append]
    show _ ∈ lotsL n ++ (lotsL n).map fun l => l ++ [n]
    by_cases h : U n = true
    · rw [List.filter_cons_of_pos h]
      exact List.mem_append.mpr (.inr (List.mem_map.mpr ⟨_, lots_mem U n, rfl⟩))
    · rw [List.filter_cons_of_neg h, List.filter_nil, List.append_nil]
      exact List.mem_append.mpr (.inl (lots_mem U n))
theorem LotOk.nodup {n : Nat} {lot : List Nat} (h : LotOk n lot) : lot.Nodup := h.up.imp fun h z => by omega
theorem range_ok (U : Nat → Bool) (n : Nat) : LotOk n ((List.range n).filter U) := lots_ok (lots_mem U n)
theorem LotOk.filter {n : Nat} {lot : List Nat} (h : LotOk n lot) (p : Nat → Bool) : LotOk n (lot.filter p) := ⟨fun i hi => h.lt i (List.mem_filter.mp hi).1, h.up.filter p⟩
theorem LotOk.ext {n : Nat} {a b : List Nat} (ha : LotOk n a) (hb : LotOk n b) (h : ∀ i, i ∈ a ↔ i ∈ b) : a = b :=
  List.Perm.eq_of_pairwise (le := fun x y => x < y) (fun x y _ _ h1 h2 => by omega) ha.up hb.up ((List.perm_ext_iff_of_nodup ha.nodup hb.nodup).mpr h)
theorem lot_filter {n : Nat} {lot : List Nat} (h : LotOk n lot) : lot = (List.range n).filter fun i => lot.contains i :=
  h.ext (range_ok _ n) fun i => by
    rw [List.mem_filter, List.contains_iff_mem, List.mem_range]
    exact ⟨fun x => ⟨h.lt i x, x⟩, fun x => x.2⟩
/-- sums over sets -/
def setSum (f : Nat → Int) (n : Nat) (U : Nat → Bool) : Int := sumN (fun i => if U i then f i else 0) n
theorem range_sum (f : Nat → Int) (U : Nat → Bool) : ∀ n : Nat, (((List.range n).filter U).map f).sum = setSum f n U
  | 0 => rfl
  | n + 1 => by
    rw [List.range_succ, List.filter_append, List.map_append, List.sum_append, range_sum f U n]
    show setSum f n U + _ = setSum f n U + (if U n then f n else 0)
    congr 1
    by_cases h : U n = true
    · rw [List.filter_cons_of_pos h, if_pos h]; simp
    · rw [List.filter_cons_of_neg h, if_neg h]; rfl
theorem lot_sum {n : Nat} {lot : List Nat} (h : LotOk n lot) (f : Nat → Int) : (lot.map f).sum = setSum f n fun i => lot.contains i := by
  rw [← range_sum, ← lot_filter h]
theorem sumN_add (f g : Nat → Int) : ∀ n, sumN (fun i => f i + g i) n = sumN f n + sumN g n
  | 0 => rfl
  | n + 1 => by
    show sumN (fun i => f i + g i) n + (f n + g n) = (sumN f n + f n) + (sumN g n + g n)
    rw [sumN_add f g n]
    omega
theorem sumN_nonneg {f : Nat → Int} : ∀ {n}, (∀ i, i < n → 0 ≤ f i) → 0 ≤ sumN f n
  | 0, _ => Int.le_refl _
  | n + 1, h => Int.add_nonneg (sumN_nonneg fun i hi => h i (by omega)) (h n (by omega))
theorem sumN_pos {f : Nat → Int} : ∀ {n}, (∀ i, i < n → 0 ≤ f i) → (∃ i, i < n ∧ 0 < f i) → 0 < sumN f n
  | 0, _, ⟨i, hi, _⟩ => absurd hi (by omega)
  | n + 1, h, ⟨i, hi, hp⟩ => by
    show 0 < sumN f n + f n
    have h1 : 0 ≤ sumN f n := sumN_nonneg fun i hi => h i (by omega)
    have h2 := h n (by omega)
    by_cases e : i = n
    · subst e; omega
    · have : 0 < sumN f n := sumN_pos (fun i hi => h i (by omega)) ⟨i, by omega, hp⟩
      omega
/-- a set in two parts -/
theorem set_split (f : Nat → Int) (n : Nat) {U A B : Nat → Bool} (h : ∀ i, i < n → U i = (A i || B i)) (hd : ∀ i, i < n → A i = true → B i = false) : setSum f n U = setSum f n A + setSum f n B := by
  unfold setSum
  rw [← sumN_add]
  refine sumN_congr fun i hi => ?_
  rw [h i hi]
  cases e : A i with
  | true => rw [hd i hi e]; simp
  | false => cases B i <;> simp
theorem set_congr (f : Nat → Int) {n : Nat} {U V : Nat → Bool} (h : ∀ i, i < n → U i = V i) : setSum f n U = setSum f n V := sumN_congr fun i hi => by rw [h i hi]
def hF (F : Fld) (i : Nat) : Int := (F.s.getD i (0, 0)).2
def wF (F : Fld) (i : Nat) : Int := (F.s.getD i (0, 0)).1 * (F.s.getD i (0, 0)).2
theorem gain_set (F : Fld) (a b : Int) (U : Nat → Bool) : gain F a b U = b * setSum (wF F) F.n U - a * setSum (hF F) F.n U := by
  have e : ∀ n, sumN (fun i => if U i then (F.s.getD i (0, 0)).2 * ((F.s.getD i (0, 0)).1 * b - a) else 0) n = b * setSum (wF F) n U - a * setSum (hF F) n U := fun n => by
    induction n with
    | zero => show (0 : Int) = b * 0 - a * 0; omega
    | succ n ih =>
      show sumN _ n + _ = b * (setSum (wF F) n U + _) - a * (setSum (hF F) n U + _)
      rw [ih, Int.mul_add, Int.mul_add]
      show _ + (if U n = true then (F.s.getD n (0, 0)).2 * ((F.s.getD n (0, 0)).1 * b - a) else 0) = b * _ + b * (if U n = true then wF F n else 0) - (a * _ + a * (if U n = true then hF F n else 0))
      by_cases h : U n = true
      · rw [if_pos h, if_pos h, if_pos h]
        unfold wF hF
        generalize (F.s.getD n (0, 0)).1 = x
        generalize (F.s.getD n (0, 0)).2 = y
        rw [Int.mul_sub, Int.mul_comm y a, Int.mul_comm y (x * b), Int.mul_comm x b, Int.mul_assoc b x y]
        omega
      · rw [if_neg h, if_neg h, if_neg h]
        omega
  exact e F.n
theorem h_pos {F : Fld} (h : WF F) {i : Nat} (hi : i < F.n) : 0 < hF F i := by
  have hl : i < F.s.length := by rw [h.s]; exact hi
  have := h.ok _ (List.getElem_mem hl)
  unfold okSeen at this
  simp only [Bool.and_eq_true, decide_eq_true_eq] at this
  unfold hF
  rw [List.getD_eq_getElem?_getD, List.getElem?_eq_getElem hl]
  show 0 < F.s[i].2
  omega
theorem setH_nonneg {F : Fld} (h : WF F) (U : Nat → Bool) : 0 ≤ setSum (hF F) F.n U := sumN_nonneg fun i hi => by
  have := h_pos h hi
  split <;> omega
theorem setH_pos {F : Fld} (h : WF F) {U : Nat → Bool} (hu : ∃ i, i < F.n ∧ U i = true) : 0 < setSum (hF F) F.n U := sumN_pos (fun i hi => by
  have := h_pos h hi
  split <;> omega) (by
  obtain ⟨i, hi, e⟩ := hu
  exact ⟨i, hi, by rw [if_pos e]; exact h_pos h hi⟩)
theorem up_iff {F : Fld} (h : WF F) {lot : List Nat} : isUpL F.n F.lt lot = true ↔ UpS F fun i => lot.contains i := by
  unfold isUpL
  rw [List.all_eq_true]
  constructor
  · intro hu i j hij hi
    have := List.all_eq_true.mp (hu i (List.contains_iff_mem.mp hi)) j (List.mem_filter.mpr ⟨List.mem_range.mpr (h.rng i j hij).2, hij⟩)
    exact this
  · intro hu i hi
    refine List.all_eq_true.mpr fun j hj => ?_
    exact hu i j (List.mem_filter.mp hj).2 (List.contains_iff_mem.mpr hi)
/-- an up set as a lot -/
theorem up_lot {F : Fld} (h : WF F) {U : Nat → Bool} (hu : UpS F U) : (List.range F.n).filter U ∈ upLots F := by
  refine List.mem_filter.mpr ⟨lots_mem U F.n, (up_iff h).mpr fun i j hij hi => ?_⟩
  have hi : ((List.range F.n).filter U).contains i = true := hi
  rw [List.contains_iff_mem, List.mem_filter] at hi
  show ((List.range F.n).filter U).contains j = true
  rw [List.contains_iff_mem, List.mem_filter]
  exact ⟨List.mem_range.mpr (h.rng i j hij).2, hu i j hij hi.2⟩
end Qp
set_option maxHeartbeats 2000000
namespace Qp
open PySem PySem.Spec PyProof.Rows L2 Qd
theorem sum_ones : ∀ l : List Nat, (l.map fun _ => (1 : Int)).sum = (l.length : Int)
  | [] => rfl
  | a :: l => by
    rw [List.map_cons, List.sum_cons, sum_ones l, List.length_cons]
    omega
theorem len_set (U : Nat → Bool) (n : Nat) : (((List.range n).filter U).length : Int) = setSum (fun _ => 1) n U := by
  rw [← range_sum, sum_ones]
theorem set_none (f : Nat → Int) {n : Nat} {U : Nat → Bool} (h : ∀ i, i < n → U i = false) : setSum f n U = 0 := by
  unfold setSum
  rw [sumN_congr (g := fun _ => 0) fun i hi => by rw [h i hi]; rfl]
  clear h
  induction n with
  | zero => rfl
  | succ n ih => show sumN _ n + 0 = 0; rw [ih]; rfl
theorem known_len {n : Nat} {known : List Nat} (hn : known.Nodup) (hl : ∀ i ∈ known, i < n) : (known.length : Int) = setSum (fun _ => 1) n fun i => known.contains i := by
  rw [← len_set]
  congr 1
  refine List.Perm.length_eq ((List.perm_ext_iff_of_nodup hn (range_ok _ n).nodup).mpr fun i => ?_)
  rw [List.mem_filter, List.contains_iff_mem, List.mem_range]
  exact ⟨fun x => ⟨hl i x, x⟩, fun x => x.2⟩
/-- what is behind known -/
abbrev Dif (U V : Nat → Bool) : Nat → Bool := fun i => U i && !V i
theorem rest_ok {n : Nat} {lot : List Nat} (h : LotOk n lot) (known : List Nat) : LotOk n (restL known lot) := h.filter _
theorem rest_sum {n : Nat} {known : List Nat} (f : Nat → Int) (U : Nat → Bool) : ((restL known ((List.range n).filter U)).map f).sum = setSum f n (Dif U fun i => known.contains i) := by
  unfold restL
  rw [List.filter_filter, range_sum]
  exact set_congr f fun i _ => by rw [Bool.and_comm]
/-- the best of all up sets behind known -/
theorem next_best {F : Fld} {L : List (List Nat)} {known : List Nat} {x : Lev} (h : WF F) (hL : L.Perm (upLots F)) (hn : known.Nodup) (hl : ∀ i ∈ known, i < F.n) (hx : IsNext F (someL F L known) known x)
    {U : Nat → Bool} (hu : UpS F U) (hk : ∀ i ∈ known, U i = true) : setSum (wF F) F.n (Dif U fun i => known.contains i) * x.1.2 ≤ x.1.1 * setSum (hF F) F.n (Dif U fun i => known.contains i) := by
  by_cases hex : ∃ i, i < F.n ∧ Dif U (fun i => known.contains i) i = true
  · have hm : (List.range F.n).filter U ∈ someL F L known := by
      refine List.mem_filter.mpr ⟨hL.mem_iff.mpr (up_lot h hu), ?_⟩
      rw [Bool.and_eq_true, decide_eq_true_eq]
      refine ⟨?_, List.all_eq_true.mpr fun i hi => ?_⟩
      · have e1 := known_len hn hl
        have e2 := len_set U F.n
        have e3 : setSum (fun _ => 1) F.n U = setSum (fun _ => 1) F.n (fun i => known.contains i) + setSum (fun _ => 1) F.n (Dif U fun i => known.contains i) := set_split _ _ (fun i hi => by
          show U i = (known.contains i || (U i && !known.contains i))
          cases e : known.contains i with
          | true => rw [hk i (List.contains_iff_mem.mp e)]; rfl
          | false => simp) (fun i hi e => by show (U i && !known.contains i) = false; rw [e]; simp)
        have e4 : 0 < setSum (fun _ => 1) F.n (Dif U fun i => known.contains i) := sumN_pos (fun i hi => by
          split
          · exact (by decide : (0 : Int) ≤ 1)
          · exact Int.le_refl _) (by
          obtain ⟨i, hi, e⟩ := hex
          exact ⟨i, hi, by rw [if_pos e]; exact (by decide : (0 : Int) < 1)⟩)
        omega
      · rw [List.contains_iff_mem, List.mem_filter]
        exact ⟨List.mem_range.mpr (hl i hi), hk i hi⟩
    have := hx.2 _ hm
    unfold sumW sumH at this
    rw [show (fun i => (F.s.getD i (0, 0)).1 * (F.s.getD i (0, 0)).2) = wF F from rfl, show (fun i => (F.s.getD i (0, 0)).2) = hF F from rfl, rest_sum, rest_sum] at this
    exact this
  · have hno : ∀ i, i < F.n → Dif U (fun i => known.contains i) i = false := fun i hi => by
      cases e : Dif U (fun i => known.contains i) i with
      | false => rfl
      | true => exact (hex ⟨i, hi, e⟩).elim
    rw [set_none _ hno, set_none _ hno]
    omega
/-- the level itself -/
theorem next_level {F : Fld} {L : List (List Nat)} {known : List Nat} {x : Lev} (h : WF F) (hL : L.Perm (upLots F)) (hn : known.Nodup) (hl : ∀ i ∈ known, i < F.n) (hx : IsNext F (someL F L known) known x) :
    LotOk F.n x.2 ∧ (∀ i ∈ x.2, i ∉ known) ∧ (0 < x.1.2 ∧ x.1.2 ≤ 10000 ∧ Int.gcd x.1.1 x.1.2 = 1) ∧ x.1.1 * setSum (hF F) F.n (fun i => x.2.contains i) = setSum (wF F) F.n (fun i => x.2.contains i) * x.1.2 ∧
    UpS F (fun i => known.contains i || x.2.contains i) ∧ x.2 ≠ [] := by
  obtain ⟨⟨lot, hm, e, hq, hmean⟩, _⟩ := hx
  obtain ⟨hm, hc⟩ := List.mem_filter.mp hm
  rw [Bool.and_eq_true, decide_eq_true_eq] at hc
  obtain ⟨hlot, hup⟩ := List.mem_filter.mp (hL.mem_iff.mp hm)
  have ok := lots_ok hlot
  have okR : LotOk F.n x.2 := by rw [e]; exact rest_ok ok known
  have mem : ∀ i, i ∈ x.2 ↔ i ∈ lot ∧ i ∉ known := fun i => by
    rw [e]
    unfold restL
    rw [List.mem_filter, Bool.not_eq_true', ← Bool.not_eq_true, List.contains_iff_mem]
  have inl : ∀ i ∈ known, i ∈ lot := fun i hi => List.contains_iff_mem.mp (List.all_eq_true.mp hc.2 i hi)
  refine ⟨okR, fun i hi => ((mem i).mp hi).2, hq, ?_, ?_, ?_⟩
  · rw [← lot_sum okR, ← lot_sum okR]
    exact hmean
  · have := (up_iff h).mp hup
    have ee : (fun i => known.contains i || x.2.contains i) = fun i => lot.contains i := funext fun i => bool_ext (by
      rw [Bool.or_eq_true, List.contains_iff_mem, List.contains_iff_mem, List.contains_iff_mem, mem]
      constructor
      · rintro (a | a)
        · exact inl i a
        · exact a.1
      · intro a
        by_cases b : i ∈ known
        · exact .inl b
        · exact .inr ⟨a, b⟩)
    rw [ee]
    exact this
  · intro z
    have sub : ∀ i ∈ lot, i ∈ known := fun i hi => by
      by_cases b : i ∈ known
      · exact b
      · have := (mem i).mpr ⟨hi, b⟩
        rw [z] at this
        cases this
    have e1 := known_len hn hl
    have e2 := known_len ok.nodup ok.lt
    have e3 : setSum (fun _ => 1) F.n (fun i => known.contains i) = setSum (fun _ => 1) F.n (fun i => lot.contains i) := set_congr _ fun i _ => bool_ext (by
      rw [List.contains_iff_mem, List.contains_iff_mem]
      exact ⟨inl i, sub i⟩)
    omega
end Qp
set_option maxHeartbeats 2000000
namespace Qp
open PySem PySem.Spec PyProof.Rows L2 Qd
/-! ### the guesses of the levels -/
theorem mem_known {lv : List Lev} {i : Nat} : i ∈ knownL lv ↔ ∃ y ∈ lv.reverse, i ∈ y.2 := by
  unfold knownL
  rw [List.mem_flatten]
  constructor
  · rintro ⟨l, hl, hi⟩
    obtain ⟨y, hy, rfl⟩ := List.mem_map.mp hl
    exact ⟨y, hy, hi⟩
  · rintro ⟨y, hy, hi⟩
    exact ⟨_, List.mem_map.mpr ⟨y, hy, rfl⟩, hi⟩
theorem known_cons (x : Lev) (lv : List Lev) : knownL (x :: lv) = knownL lv ++ x.2 := by
  unfold knownL
  rw [List.reverse_cons, List.map_append, List.flatten_append]
  show _ ++ (x.2 ++ []) = _
  rw [List.append_nil]
theorem guess_old {x : Lev} {lv : List Lev} {i : Nat} (h : i ∈ knownL lv) : guessL (x :: lv) i = guessL lv i := by
  obtain ⟨y, hy, hi⟩ := mem_known.mp h
  unfold guessL
  rw [List.reverse_cons, List.find?_append]
  cases e : lv.reverse.find? fun x => x.2.contains i with
  | some z => rfl
  | none =>
    have := List.find?_eq_none.mp e y hy
    rw [List.contains_iff_mem] at this
    exact (this hi).elim
theorem guess_new {x : Lev} {lv : List Lev} {i : Nat} (h : i ∉ knownL lv) (hi : i ∈ x.2) : guessL (x :: lv) i = x.1 := by
  unfold guessL
  rw [List.reverse_cons, List.find?_append]
  have e : (lv.reverse.find? fun x => x.2.contains i) = none := List.find?_eq_none.mpr fun y hy z => h (mem_known.mpr ⟨y, hy, List.contains_iff_mem.mp z⟩)
  rw [e]
  have hc : x.2.contains i = true := List.contains_iff_mem.mpr hi
  show (match (List.find? (fun x : Lev => x.2.contains i) [x]) with
    | some x => x.1
    | none => ((0 : Int), (1 : Int))) = x.1
  rw [show List.find? (fun x : Lev => x.2.contains i) [x] = some x by unfold List.find?; rw [hc]]
def Vm (lv : List Lev) (a b : Int) : Nat → Bool := fun i => (knownL lv).contains i && decide (a * (guessL lv i).2 ≤ (guessL lv i).1 * b)
structure LI (F : Fld) (lv : List Lev) : Prop where
  nd : (knownL lv).Nodup
  lt : ∀ i ∈ knownL lv, i < F.n
  up : UpS F fun i => (knownL lv).contains i
  red : ∀ i ∈ knownL lv, 0 < (guessL lv i).2 ∧ (guessL lv i).2 ≤ 10000 ∧ Int.gcd (guessL lv i).1 (guessL lv i).2 = 1
  low : ∀ x lv', lv = x :: lv' → (∀ i ∈ knownL lv, x.1.1 * (guessL lv i).2 ≤ (guessL lv i).1 * x.1.2) ∧ 0 < x.1.2 ∧
    ∀ U, UpS F U → (∀ i ∈ knownL lv, U i = true) → setSum (wF F) F.n (Dif U fun i => (knownL lv).contains i) * x.1.2 ≤ x.1.1 * setSum (hF F) F.n (Dif U fun i => (knownL lv).contains i)
  mup : ∀ a b, 0 < b → UpS F (Vm lv a b)
  mge : ∀ a b, 0 < b → ∀ U, UpS F U → 0 ≤ gain F a b (Dif (Vm lv a b) U)
  mlt : ∀ a b, 0 < b → (∃ i ∈ knownL lv, Vm lv a b i = false) → ∀ U, UpS F U → (∃ i, i < F.n ∧ Dif U (Vm lv a b) i = true) → gain F a b (Dif U (Vm lv a b)) < 0
/-- p/q ≤ r/s ≤ t/u -/
theorem frac_trans {p q r s t u : Int} (hs : 0 < s) (hq : 0 ≤ q) (hu : 0 ≤ u) (h1 : p * s ≤ r * q) (h2 : r * u ≤ t * s) : p * u ≤ t * q := by
  refine Int.le_of_mul_le_mul_right (?_ : p * u * s ≤ t * q * s) hs
  have x1 : p * s * u ≤ r * q * u := Int.mul_le_mul_of_nonneg_right h1 hu
  have x2 : r * u * q ≤ t * s * q := Int.mul_le_mul_of_nonneg_right h2 hq
  have y1 : p * u * s = p * s * u := by rw [Int.mul_assoc, Int.mul_comm u s, ← Int.mul_assoc]
  have y2 : r * q * u = r * u * q := by rw [Int.mul_assoc, Int.mul_comm q u, ← Int.mul_assoc]
  have y3 : t * q * s = t * s * q := by rw [Int.mul_assoc, Int.mul_comm q s, ← Int.mul_assoc]
  omega
/-- q times the gain of a set whose mean is p/q at most -/
theorem gain_le {a b p q W H : Int} (hb : 0 < b) (h : W * q ≤ p * H) : (b * W - a * H) * q ≤ (b * p - a * q) * H := by
  have x : b * (W * q) ≤ b * (p * H) := Int.mul_le_mul_of_nonneg_left h (by omega)
  rw [Int.sub_mul, Int.sub_mul, Int.mul_assoc, Int.mul_assoc b p H, Int.mul_assoc a H q, Int.mul_assoc a q H, Int.mul_comm H q]
  omega
theorem gain_eq {a b p q W H : Int} (h : p * H = W * q) : (b * W - a * H) * q = (b * p - a * q) * H := by
  rw [Int.sub_mul, Int.sub_mul, Int.mul_assoc, Int.mul_assoc b p H, Int.mul_assoc a H q, Int.mul_assoc a q H, Int.mul_comm H q, h]
theorem li_nil {F : Fld} : LI F [] := by
  refine ⟨List.nodup_nil, (fun i h => nomatch h), (fun i j _ h => nomatch (show false = true from h)), (fun i h => nomatch h), (fun x lv e => nomatch e), (fun a b _ i j _ h => nomatch (show false = true from h)), (fun a b _ U _ => ?_), (fun a b _ h => ?_)⟩
  · unfold gain
    refine Int.le_of_eq ?_
    symm
    exact set_none (fun i => (F.s.getD i (0, 0)).2 * ((F.s.getD i (0, 0)).1 * b - a)) fun i _ => rfl
  · obtain ⟨i, hi, _⟩ := h
    exact nomatch hi
end Qp
set_option maxHeartbeats 2000000
namespace Qp
open PySem PySem.Spec PyProof.Rows L2 Qd
theorem vm_old {x : Lev} {lv : List Lev} {a b : Int} {i : Nat} (h : i ∈ knownL lv) : Vm (x :: lv) a b i = Vm lv a b i := by
  unfold Vm
  rw [guess_old h, known_cons, List.contains_iff_mem.mpr h, List.contains_iff_mem.mpr (List.mem_append.mpr (.inl h))]
theorem vm_new {x : Lev} {lv : List Lev} {a b : Int} {i : Nat} (h : i ∉ knownL lv) (hi : i ∈ x.2) : Vm (x :: lv) a b i = decide (a * x.1.2 ≤ x.1.1 * b) := by
  unfold Vm
  rw [guess_new h hi, known_cons, List.contains_iff_mem.mpr (List.mem_append.mpr (.inr hi)), Bool.true_and]
theorem vm_out {lv : List Lev} {a b : Int} {i : Nat} (h : i ∉ knownL lv) : Vm lv a b i = false := by
  unfold Vm
  rw [show (knownL lv).contains i = false from Bool.eq_false_iff.mpr fun z => h (List.contains_iff_mem.mp z)]
  rfl
theorem up_or {F : Fld} {U V : Nat → Bool} (hu : UpS F U) (hv : UpS F V) : UpS F fun i => U i || V i := fun i j hij h => by
  have h : (U i || V i) = true := h
  show (U j || V j) = true
  rw [Bool.or_eq_true] at h ⊢
  exact h.imp (hu i j hij) (hv i j hij)
theorem up_and {F : Fld} {U V : Nat → Bool} (hu : UpS F U) (hv : UpS F V) : UpS F fun i => U i && V i := fun i j hij h => by
  have h : (U i && V i) = true := h
  show (U j && V j) = true
  rw [Bool.and_eq_true] at h ⊢
  exact ⟨hu i j hij h.1, hv i j hij h.2⟩
theorem pos_of {x q : Int} (hq : 0 < q) (h : 0 ≤ x * q) : 0 ≤ x := by
  rcases Int.lt_or_le x 0 with c | c
  · have := Int.mul_neg_of_neg_of_pos c hq
    omega
  · exact c
theorem neg_of {x q : Int} (hq : 0 < q) (h : x * q < 0) : x < 0 := by
  rcases Int.lt_or_le x 0 with c | c
  · exact c
  · have := Int.mul_nonneg c (Int.le_of_lt hq)
    omega
theorem li_cons {F : Fld} {L : List (List Nat)} {x : Lev} {lv : List Lev} (h : WF F) (hL : L.Perm (upLots F)) (I : LI F lv) (hx : IsNext F (someL F L (knownL lv)) (knownL lv) x) : LI F (x :: lv) := by
  obtain ⟨okR, dj, ⟨q0, q1, q2⟩, hm, hup, hne⟩ := next_level h hL I.nd I.lt hx
  have best : ∀ {U : Nat → Bool}, UpS F U → (∀ i ∈ knownL lv, U i = true) → setSum (wF F) F.n (Dif U fun i => (knownL lv).contains i) * x.1.2 ≤ x.1.1 * setSum (hF F) F.n (Dif U fun i => (knownL lv).contains i) := fun hu hk => next_best h hL I.nd I.lt hx hu hk
  generalize hKd : (fun i => (knownL lv).contains i) = Kc at best hup
  have kc : ∀ i, Kc i = true ↔ i ∈ knownL lv := fun i => by rw [← hKd]; exact List.contains_iff_mem
  have rc : ∀ i, x.2.contains i = true ↔ i ∈ x.2 := fun i => List.contains_iff_mem
  have hupK : UpS F Kc := by rw [← hKd]; exact I.up
  have cK' : (fun i => (knownL (x :: lv)).contains i) = fun i => Kc i || x.2.contains i := funext fun i => bool_ext (by
    rw [known_cons, List.contains_iff_mem, List.mem_append, Bool.or_eq_true, kc, rc])
  have hup' : UpS F fun i => Kc i || x.2.contains i := by
    have e : (fun i => Kc i || x.2.contains i) = fun i => (knownL lv).contains i || x.2.contains i := by rw [← hKd]
    rw [e]
    exact hup
  -- what is behind known, in two parts
  have split2 : ∀ (f : Nat → Int) {U : Nat → Bool}, (∀ i ∈ x.2, U i = true) → setSum f F.n (Dif U Kc) = setSum f F.n (fun i => x.2.contains i) + setSum f F.n (Dif U fun i => Kc i || x.2.contains i) := fun f U hU => set_split f _ (fun i _ => by
      show (U i && !Kc i) = (x.2.contains i || (U i && !(Kc i || x.2.contains i)))
      cases e : x.2.contains i with
      | true =>
        have hi := (rc i).mp e
        rw [hU i hi, show Kc i = false from Bool.eq_false_iff.mpr fun z => dj i hi ((kc i).mp z)]
        rfl
      | false => rw [Bool.or_false, Bool.false_or]) (fun i _ e => by
      show (U i && !(Kc i || x.2.contains i)) = false
      rw [e, Bool.or_true]; simp)
  have best' : ∀ {U : Nat → Bool}, UpS F U → (∀ i ∈ knownL lv, U i = true) → (∀ i ∈ x.2, U i = true) → setSum (wF F) F.n (Dif U fun i => Kc i || x.2.contains i) * x.1.2 ≤ x.1.1 * setSum (hF F) F.n (Dif U fun i => Kc i || x.2.contains i) := fun hu hk hR => by
    have := best hu hk
    rw [split2 _ hR, split2 _ hR, Int.add_mul, Int.mul_add, hm] at this
    omega
  obtain ⟨r0, hr0⟩ : ∃ r, r ∈ x.2 := List.exists_mem_of_ne_nil _ hne
  have hRpos : 0 < setSum (hF F) F.n (fun i => x.2.contains i) := setH_pos h ⟨r0, okR.lt r0 hr0, (rc r0).mpr hr0⟩
  -- all earlier guesses are x's at least
  have low : ∀ i ∈ knownL lv, x.1.1 * (guessL lv i).2 ≤ (guessL lv i).1 * x.1.2 := fun i hi => by
    cases lv with
    | nil => exact nomatch (show i ∈ ([] : List Nat) from hi)
    | cons y lv' =>
      obtain ⟨l1, l2, l3⟩ := I.low y lv' rfl
      have s := l3 _ hup' fun i hi => by show (Kc i || _) = true; rw [(kc i).mpr hi]; rfl
      rw [hKd] at s
      have e : ∀ f, setSum f F.n (Dif (fun i => Kc i || x.2.contains i) Kc) = setSum f F.n fun i => x.2.contains i := fun f => set_congr f fun i _ => by
        show ((Kc i || x.2.contains i) && !Kc i) = x.2.contains i
        cases e : Kc i with
        | true =>
          rw [show x.2.contains i = false from Bool.eq_false_iff.mpr fun z => dj i ((rc i).mp z) ((kc i).mp e)]
          rfl
        | false => simp
      rw [e, e] at s
      have le : x.1.1 * y.1.2 ≤ y.1.1 * x.1.2 := by
        refine Int.le_of_mul_le_mul_right (?_ : x.1.1 * y.1.2 * setSum (hF F) F.n (fun i => x.2.contains i) ≤ y.1.1 * x.1.2 * setSum (hF F) F.n (fun i => x.2.contains i)) hRpos
        have t : setSum (wF F) F.n (fun i => x.2.contains i) * y.1.2 * x.1.2 ≤ y.1.1 * setSum (hF F) F.n (fun i => x.2.contains i) * x.1.2 := Int.mul_le_mul_of_nonneg_right s (by omega)
        have t1 : x.1.1 * y.1.2 * setSum (hF F) F.n (fun i => x.2.contains i) = setSum (wF F) F.n (fun i => x.2.contains i) * y.1.2 * x.1.2 := by
          rw [Int.mul_assoc, Int.mul_comm y.1.2, ← Int.mul_assoc, hm, Int.mul_assoc, Int.mul_comm x.1.2, ← Int.mul_assoc]
        have t2 : y.1.1 * x.1.2 * setSum (hF F) F.n (fun i => x.2.contains i) = y.1.1 * setSum (hF F) F.n (fun i => x.2.contains i) * x.1.2 := by
          rw [Int.mul_assoc, Int.mul_comm x.1.2, ← Int.mul_assoc]
        omega
      exact frac_trans l2 (by omega) (by have := (I.red i hi).1; omega) le (l1 i hi)
  have mem' : ∀ i, i ∈ knownL (x :: lv) ↔ i ∈ knownL lv ∨ i ∈ x.2 := fun i => by rw [known_cons, List.mem_append]
  -- the sets at a mark
  have vge : ∀ a b, 0 < b → a * x.1.2 ≤ x.1.1 * b → (∀ i, Vm (x :: lv) a b i = (Kc i || x.2.contains i)) ∧ ∀ i, Vm lv a b i = Kc i := fun a b hb c => by
    have v1 : ∀ i, Vm lv a b i = Kc i := fun i => by
      by_cases hi : i ∈ knownL lv
      · rw [(kc i).mpr hi]
        unfold Vm
        rw [List.contains_iff_mem.mpr hi, Bool.true_and]
        exact decide_eq_true (frac_trans q0 (by omega) (by have := (I.red i hi).1; omega) c (low i hi))
      · rw [vm_out hi]
        symm
        exact Bool.eq_false_iff.mpr fun z => hi ((kc i).mp z)
    refine ⟨fun i => ?_, v1⟩
    by_cases hi : i ∈ knownL lv
    · rw [vm_old hi, v1, (kc i).mpr hi]
      rfl
    · rw [show Kc i = false from Bool.eq_false_iff.mpr fun z => hi ((kc i).mp z), Bool.false_or]
      by_cases hr : i ∈ x.2
      · rw [vm_new hi hr, (rc i).mpr hr]
        exact decide_eq_true c
      · rw [vm_out fun z => ((mem' i).mp z).elim hi hr]
        symm
        exact Bool.eq_false_iff.mpr fun z => hr ((rc i).mp z)
  have vlt : ∀ a b, 0 < b → ¬ a * x.1.2 ≤ x.1.1 * b → ∀ i, Vm (x :: lv) a b i = Vm lv a b i := fun a b hb c i => by
    by_cases hi : i ∈ knownL lv
    · exact vm_old hi
    · rw [vm_out hi]
      by_cases hr : i ∈ x.2
      · rw [vm_new hi hr]
        exact decide_eq_false c
      · exact vm_out fun z => ((mem' i).mp z).elim hi hr
  refine ⟨?_, fun i hi => ?_, by rw [cK']; exact hup', fun i hi => ?_, fun y lv' e => ?_, fun a b hb => ?_, fun a b hb U hU => ?_, fun a b hb hmiss U hU hex => ?_⟩
  · rw [known_cons, List.nodup_append]
    exact ⟨I.nd, okR.nodup, fun i hi j hj e => dj j hj (by rw [← e]; exact hi)⟩
  · exact ((mem' i).mp hi).elim (I.lt i) (okR.lt i)
  · by_cases hk : i ∈ knownL lv
    · rw [guess_old hk]
      exact I.red i hk
    · rw [guess_new hk (((mem' i).mp hi).resolve_left hk)]
      exact ⟨q0, q1, q2⟩
  · cases e
    refine ⟨fun i hi => ?_, q0, fun U hU hk => ?_⟩
    · by_cases hk : i ∈ knownL lv
      · rw [guess_old hk]
        exact low i hk
      · rw [guess_new hk (((mem' i).mp hi).resolve_left hk)]
        exact Int.le_refl _
    · rw [cK']
      exact best' hU (fun i hi => hk i ((mem' i).mpr (.inl hi))) fun i hi => hk i ((mem' i).mpr (.inr hi))
  · by_cases c : a * x.1.2 ≤ x.1.1 * b
    · rw [show Vm (x :: lv) a b = fun i => Kc i || x.2.contains i from funext (vge a b hb c).1]
      exact hup'
    · rw [show Vm (x :: lv) a b = Vm lv a b from funext (vlt a b hb c)]
      exact I.mup a b hb
  · by_cases c : a * x.1.2 ≤ x.1.1 * b
    · rw [show Vm (x :: lv) a b = fun i => Kc i || x.2.contains i from funext (vge a b hb c).1]
      have g1 := I.mge a b hb U hU
      rw [show Vm lv a b = Kc from funext (vge a b hb c).2] at g1
      have disj : ∀ i, Kc i = true → x.2.contains i = false := fun i e => Bool.eq_false_iff.mpr fun z => dj i ((rc i).mp z) ((kc i).mp e)
      have sp : ∀ f, setSum f F.n (Dif (fun i => Kc i || x.2.contains i) U) = setSum f F.n (Dif Kc U) + setSum f F.n (Dif (fun i => x.2.contains i) U) := fun f => set_split f _ (fun i _ => by
        show ((Kc i || x.2.contains i) && !U i) = ((Kc i && !U i) || (x.2.contains i && !U i))
        cases Kc i <;> cases x.2.contains i <;> cases U i <;> rfl) (fun i _ e => by
        have e : (Kc i && !U i) = true := e
        rw [Bool.and_eq_true] at e
        show (x.2.contains i && !U i) = false
        rw [disj i e.1]
        rfl)
      have spR : ∀ f, setSum f F.n (fun i => x.2.contains i) = setSum f F.n (fun i => x.2.contains i && U i) + setSum f F.n (Dif (fun i => x.2.contains i) U) := fun f => set_split f _ (fun i _ => by
        show x.2.contains i = ((x.2.contains i && U i) || (x.2.contains i && !U i))
        cases x.2.contains i <;> cases U i <;> rfl) (fun i _ e => by
        have e : (x.2.contains i && U i) = true := e
        rw [Bool.and_eq_true] at e
        show (x.2.contains i && !U i) = false
        rw [e.2]
        simp)
      have bw := best (up_or hupK (up_and hU hup')) fun i hi => by show (Kc i || _) = true; rw [(kc i).mpr hi]; rfl
      have eW : ∀ f, setSum f F.n (Dif (fun i => Kc i || (U i && (Kc i || x.2.contains i))) Kc) = setSum f F.n fun i => x.2.contains i && U i := fun f => set_congr f fun i _ => by
        show ((Kc i || (U i && (Kc i || x.2.contains i))) && !Kc i) = (x.2.contains i && U i)
        cases e : Kc i with
        | true => rw [disj i e]; simp
        | false => cases x.2.contains i <;> cases U i <;> rfl
      rw [eW, eW] at bw
      have k1 := gain_le (a := a) hb bw
      have k2 := gain_eq (a := a) (b := b) hm
      rw [spR, spR (hF F)] at k2
      have k3 := setH_nonneg h (Dif (fun i => x.2.contains i) U)
      rw [gain_set] at g1
      rw [gain_set, sp, sp]
      generalize setSum (wF F) F.n (Dif (fun i => x.2.contains i) U) = w2 at k2 ⊢
      generalize setSum (hF F) F.n (Dif (fun i => x.2.contains i) U) = h2 at k2 k3 ⊢
      generalize setSum (wF F) F.n (fun i => x.2.contains i && U i) = w1 at k1 k2
      generalize setSum (hF F) F.n (fun i => x.2.contains i && U i) = h1 at k1 k2
      generalize setSum (wF F) F.n (Dif Kc U) = w0 at g1 ⊢
      generalize setSum (hF F) F.n (Dif Kc U) = h0 at g1 ⊢
      have k4 : 0 ≤ (b * x.1.1 - a * x.1.2) * h2 := Int.mul_nonneg (by rw [Int.mul_comm b]; omega) k3
      have k5 : (b * (w1 + w2) - a * (h1 + h2)) * x.1.2 = (b * w1 - a * h1) * x.1.2 + (b * w2 - a * h2) * x.1.2 := by
        rw [← Int.add_mul, Int.mul_add, Int.mul_add]
        congr 1
        omega
      rw [k5, Int.mul_add] at k2
      have k6 : 0 ≤ b * w2 - a * h2 := pos_of q0 (by omega)
      rw [Int.mul_add, Int.mul_add]
      omega
    · rw [show Vm (x :: lv) a b = Vm lv a b from funext (vlt a b hb c)]
      exact I.mge a b hb U hU
  · by_cases c : a * x.1.2 ≤ x.1.1 * b
    · obtain ⟨i, hi, e⟩ := hmiss
      rw [(vge a b hb c).1 i] at e
      have := congrFun cK' i
      rw [show (knownL (x :: lv)).contains i = true from List.contains_iff_mem.mpr hi] at this
      rw [← this] at e
      cases e
    · have ev := funext (vlt a b hb c)
      rw [ev] at hex ⊢
      by_cases hs : ∃ i ∈ knownL lv, Vm lv a b i = false
      · exact I.mlt a b hb hs U hU hex
      · have e0 : Vm lv a b = Kc := funext fun i => by
          by_cases hi : i ∈ knownL lv
          · rw [(kc i).mpr hi]
            cases e : Vm lv a b i with
            | true => rfl
            | false => exact (hs ⟨i, hi, e⟩).elim
          · rw [vm_out hi]
            symm
            exact Bool.eq_false_iff.mpr fun z => hi ((kc i).mp z)
        rw [e0] at hex ⊢
        have bw := best (up_or hupK hU) fun i hi => by show (Kc i || _) = true; rw [(kc i).mpr hi]; rfl
        have eW : ∀ f, setSum f F.n (Dif (fun i => Kc i || U i) Kc) = setSum f F.n (Dif U Kc) := fun f => set_congr f fun i _ => by
          show ((Kc i || U i) && !Kc i) = (U i && !Kc i)
          cases Kc i <;> cases U i <;> rfl
        rw [eW, eW] at bw
        have k1 := gain_le (a := a) hb bw
        have k2 := setH_pos h hex
        rw [gain_set]
        refine neg_of q0 (Int.lt_of_le_of_lt k1 (Int.mul_neg_of_neg_of_pos (by rw [Int.mul_comm b]; omega) k2))
end Qp
set_option maxHeartbeats 2000000
namespace Qp
open PySem PySem.Spec PyProof.Rows L2 Qd
theorem li_of {F : Fld} {L : List (List Nat)} (h : WF F) (hL : L.Perm (upLots F)) : ∀ {lv : List Lev}, IsLevs F L lv → LI F lv
  | [], _ => li_nil
  | x :: lv, ⟨h1, _, h2⟩ => li_cons h hL (li_of h hL h1) h2
theorem known_all {F : Fld} {lv : List Lev} (I : LI F lv) (hn : F.n ≤ (knownL lv).length) {i : Nat} (hi : i < F.n) : i ∈ knownL lv := by
  by_cases c : i ∈ knownL lv
  · exact c
  · exfalso
    have e1 := known_len I.nd I.lt
    have e2 : setSum (fun _ => 1) F.n (fun _ => true) = setSum (fun _ => 1) F.n (fun i => (knownL lv).contains i) + setSum (fun _ => 1) F.n (fun i => !(knownL lv).contains i) := set_split _ _ (fun i _ => by cases (knownL lv).contains i <;> rfl) (fun i _ e => by rw [e]; rfl)
    have e3 : ((F.n : Nat) : Int) = setSum (fun _ => 1) F.n (fun _ => true) := by
      rw [← len_set, List.filter_eq_self.mpr fun _ _ => rfl, List.length_range]
    have e4 : 0 < setSum (fun _ => 1) F.n (fun i => !(knownL lv).contains i) := sumN_pos (fun i hi => by
      split
      · exact (by decide : (0 : Int) ≤ 1)
      · exact Int.le_refl _) ⟨i, hi, by
        rw [if_pos (by show (!(knownL lv).contains i) = true; rw [show (knownL lv).contains i = false from Bool.eq_false_iff.mpr fun z => c (List.contains_iff_mem.mp z)]; rfl)]
        exact (by decide : (0 : Int) < 1)⟩
    omega
theorem gain_split {F : Fld} {a b : Int} {U A B : Nat → Bool} (h : ∀ i, i < F.n → U i = (A i || B i)) (hd : ∀ i, i < F.n → A i = true → B i = false) : gain F a b U = gain F a b A + gain F a b B := by
  rw [gain_set, gain_set, gain_set, set_split _ _ h hd, set_split _ _ h hd, Int.mul_add, Int.mul_add]
  omega
/-- THE TABLE -/
theorem levs_tab {F : Fld} {L : List (List Nat)} {lv : List Lev} (h : WF F) (hL : L.Perm (upLots F)) (hl : IsLevs F L lv) (hn : F.n ≤ (knownL lv).length) : IsTab F ((List.range F.n).map (guessL lv)) := by
  have I := li_of h hL hl
  have all : ∀ i, i < F.n → i ∈ knownL lv := fun i hi => known_all I hn hi
  have at_ : ∀ a b i, i < F.n → atLeast ((List.range F.n).map (guessL lv)) a b i = Vm lv a b i := fun a b i hi => by
    unfold atLeast Vm
    rw [List.contains_iff_mem.mpr (all i hi), Bool.true_and, List.getD_eq_getElem?_getD, List.getElem?_map, List.getElem?_range hi]
    rfl
  refine ⟨by rw [List.length_map, List.length_range], fun x hx => ?_, fun a b hb i j hij hi => ?_, fun a b hb U hU => ?_⟩
  · obtain ⟨i, hi, rfl⟩ := List.mem_map.mp hx
    exact I.red i (all i (List.mem_range.mp hi))
  · obtain ⟨r1, r2⟩ := h.rng i j hij
    rw [at_ a b i r1] at hi
    rw [at_ a b j r2]
    exact I.mup a b hb i j hij hi
  · rw [gain_congr (at_ a b)]
    generalize hV : Vm lv a b = V
    have s1 : gain F a b (fun i => U i || V i) = gain F a b U + gain F a b (Dif V U) := gain_split (fun i _ => by
      show (U i || V i) = (U i || (V i && !U i))
      cases U i <;> cases V i <;> rfl) (fun i _ e => by show (V i && !U i) = false; rw [e]; simp)
    have s2 : gain F a b (fun i => U i || V i) = gain F a b V + gain F a b (Dif U V) := gain_split (fun i _ => by
      show (U i || V i) = (V i || (U i && !V i))
      cases U i <;> cases V i <;> rfl) (fun i _ e => by show (U i && !V i) = false; rw [e]; simp)
    have g1 := I.mge a b hb U hU
    rw [hV] at g1
    by_cases hex : ∃ i, i < F.n ∧ Dif U V i = true
    · have hm : ∃ i ∈ knownL lv, Vm lv a b i = false := by
        obtain ⟨i, hi, e⟩ := hex
        have e : (U i && !V i) = true := e
        rw [Bool.and_eq_true, Bool.not_eq_true'] at e
        exact ⟨i, all i hi, by rw [hV]; exact e.2⟩
      have g2 := I.mlt a b hb hm U hU (by rw [hV]; exact hex)
      rw [hV] at g2
      exact ⟨by omega, fun e => by omega⟩
    · have hno : ∀ i, i < F.n → Dif U V i = false := fun i hi => by
        cases e : Dif U V i with
        | false => rfl
        | true => exact (hex ⟨i, hi, e⟩).elim
      have g2 : gain F a b (Dif U V) = 0 := by rw [gain_set, set_none _ hno, set_none _ hno]; omega
      refine ⟨by omega, fun _ i hi hu => ?_⟩
      rw [at_ a b i hi, hV]
      have := hno i hi
      have this : (U i && !V i) = false := this
      rw [hu, Bool.true_and] at this
      cases e : V i with
      | true => rfl
      | false => rw [e] at this; cases this
end Qp
set_option maxHeartbeats 2000000
namespace Qp
open PySem PySem.Spec PyProof.Rows L2 Qd
/-! ### covers of a part -/
theorem mem_covers {p : Rel} {lot : List Nat} {x : Nat × Nat} : x ∈ coversL p lot ↔ x.1 ∈ lot ∧ x.2 ∈ lot ∧ p x.1 x.2 = true ∧ ∀ c ∈ lot, ¬ (p x.1 c = true ∧ p c x.2 = true) := by
  unfold coversL
  rw [List.mem_flatMap]
  constructor
  · rintro ⟨a, ha, h⟩
    obtain ⟨b, hb, rfl⟩ := List.mem_map.mp h
    obtain ⟨h1, h2⟩ := List.mem_filter.mp hb
    rw [Bool.and_eq_true, Bool.not_eq_true', ← Bool.not_eq_true, List.any_eq_true] at h2
    exact ⟨ha, h1, h2.1, fun c hc z => h2.2 ⟨c, hc, by rw [Bool.and_eq_true]; exact z⟩⟩
  · rintro ⟨h1, h2, h3, h4⟩
    refine ⟨x.1, h1, List.mem_map.mpr ⟨x.2, List.mem_filter.mpr ⟨h2, ?_⟩, rfl⟩⟩
    rw [Bool.and_eq_true, Bool.not_eq_true', ← Bool.not_eq_true, List.any_eq_true]
    refine ⟨h3, fun ⟨c, hc, z⟩ => h4 c hc ?_⟩
    rw [Bool.and_eq_true] at z
    exact z
/-- the pairs of a strict order among a lot are chains of its covers -/
theorem covers_path {F : Fld} (h : WF F) {lot : List Nat} : ∀ (m : Nat) {a b : Nat}, ((lot.filter fun c => F.lt a c && F.lt c b).length ≤ m) → a ∈ lot → b ∈ lot → F.lt a b = true → Pth (memR (coversL F.lt lot)) a b
  | m, a, b, hm, ha, hb, hab => by
    by_cases hex : ∃ c ∈ lot, F.lt a c = true ∧ F.lt c b = true
    · obtain ⟨c, hc, h1, h2⟩ := hex
      have sub : ∀ {u v : Nat}, (∀ d ∈ lot, F.lt u d = true ∧ F.lt d v = true → F.lt a d = true ∧ F.lt d b = true) → ¬(F.lt u c = true ∧ F.lt c v = true) → (lot.filter fun d => F.lt u d && F.lt d v).length < (lot.filter fun d => F.lt a d && F.lt d b).length := fun {u v} hs hn => by
        have e1 : (lot.filter fun d => F.lt u d && F.lt d v) = (lot.filter fun d => F.lt a d && F.lt d b).filter fun d => F.lt u d && F.lt d v := by
          rw [List.filter_filter]
          refine List.filter_congr fun d hd => bool_ext ?_
          rw [Bool.and_eq_true, Bool.and_eq_true, Bool.and_eq_true, Bool.and_eq_true]
          exact ⟨fun z => ⟨z, hs d hd z⟩, fun z => z.1⟩
        rw [e1]
        refine Nat.lt_of_le_of_ne (List.length_filter_le _ _) fun z => ?_
        have := List.filter_sublist (p := fun d => F.lt u d && F.lt d v) (l := lot.filter fun d => F.lt a d && F.lt d b)
        have e2 := this.eq_of_length z
        have hcm : c ∈ lot.filter fun d => F.lt a d && F.lt d b := List.mem_filter.mpr ⟨hc, by rw [h1, h2]; rfl⟩
        rw [← e2] at hcm
        have := (List.mem_filter.mp hcm).2
        rw [Bool.and_eq_true] at this
        exact hn this
      have l1 : (lot.filter fun d => F.lt a d && F.lt d c).length < (lot.filter fun d => F.lt a d && F.lt d b).length := sub (fun d _ z => ⟨z.1, h.tr _ _ _ z.2 h2⟩) fun z => by have := z.2; rw [h.irr c] at this; cases this
      have l2 : (lot.filter fun d => F.lt c d && F.lt d b).length < (lot.filter fun d => F.lt a d && F.lt d b).length := sub (fun d _ z => ⟨h.tr _ _ _ h1 z.1, z.2⟩) fun z => by have := z.1; rw [h.irr c] at this; cases this
      cases m with
      | zero => omega
      | succ m => exact (covers_path h m (by omega) ha hc h1).trans (covers_path h m (by omega) hc hb h2)
    · exact .one (memR_iff.mpr (mem_covers.mpr ⟨ha, hb, hab, fun c hc z => hex ⟨c, hc, z⟩⟩))
end Qp
set_option maxHeartbeats 2000000
namespace Qp
open PySem PySem.Spec PyProof.Rows L2 Qd
theorem pth_map {p q : Rel} {f : Nat → Nat} (h : ∀ i j, p i j = true → q (f i) (f j) = true) {i j : Nat} (g : Pth p i j) : Pth q (f i) (f j) := by
  induction g with
  | one e => exact .one (h _ _ e)
  | cons e _ ih => exact .cons (h _ _ e) ih
def spotsR (lot : List Nat) (l : List (Nat × Nat)) : List (Nat × Nat) := l.map fun x => (lot.idxOf x.1, lot.idxOf x.2)
theorem idx_get {lot : List Nat} {a : Nat} (h : a ∈ lot) : lot[lot.idxOf a]? = some a := by
  have hl := List.idxOf_lt_length_of_mem h
  rw [List.getElem?_eq_getElem hl, List.getElem_idxOf hl]
theorem part_clo {F : Fld} (h : WF F) {lot : List Nat} (ok : LotOk F.n lot) : clo lot.length (memR (spotsR lot (coversL F.lt lot))) = subR F.lt lot := by
  have edge : ∀ i j, memR (spotsR lot (coversL F.lt lot)) i j = true → subR F.lt lot i j = true := fun i j e => by
    obtain ⟨x, hx, ex⟩ := List.mem_map.mp (memR_iff.mp e)
    obtain ⟨h1, h2, h3, _⟩ := mem_covers.mp hx
    cases ex
    exact sub_iff.mpr ⟨x.1, x.2, idx_get h1, idx_get h2, h3⟩
  refine rel_ext fun i j => ?_
  rw [clo_iff fun i j e => sub_rng i j (edge i j e)]
  constructor
  · intro g
    exact pth_tr (sub_tr h) (g.mono fun i j e => .one (edge i j e))
  · intro e
    obtain ⟨a, b, e1, e2, e3⟩ := sub_iff.mp e
    obtain ⟨l1, rfl⟩ := List.getElem?_eq_some_iff.mp e1
    obtain ⟨l2, rfl⟩ := List.getElem?_eq_some_iff.mp e2
    have g := covers_path h _ (Nat.le_refl _) (List.getElem_mem l1) (List.getElem_mem l2) e3
    have g' := pth_map (q := memR (spotsR lot (coversL F.lt lot))) (f := fun a => lot.idxOf a) (fun i j z => memR_iff.mpr (List.mem_map.mpr ⟨(i, j), memR_iff.mp z, rfl⟩)) g
    have i1 : lot.idxOf lot[i] = i := ok.nodup.idxOf_getElem i l1
    have i2 : lot.idxOf lot[j] = j := ok.nodup.idxOf_getElem j l2
    rw [i1, i2] at g'
    exact g'
end Qp
set_option maxHeartbeats 4000000
namespace Qp
open PySem PySem.Spec PyProof.Rows L2 Qd
variable {P : Program} {w : World} {K : PySem.W.Frag} {mg : Str → Option Value} {base : Heap} {W : Wd}
abbrev N_need_field : List Str := ["thing", "size", "ties", "seen", "number", "one", "some"]
abbrev s_need_field : Stmt := top 20
theorem sc_need_field : FnScope N_need_field ["thing"] (defScope s_need_field) := ⟨rfl, rfl, rfl, by decide +kernel, rfl, by decide +kernel, by decide +kernel⟩
def w_need_field : WS := (wSeq (wIfS (wOr (wNot (wTst (wUn (rIsiD "tuple") (wVar 0)))) (wTst (wOp rNeI (wCallB rLen (wCons (wVar 0) wNil)) (wC (.int 3))))) wNever wNext)
  (wSeq (wAsg (wVar 0) (wgTup 3 (wgCons (wgName 1) (wgCons (wgName 2) (wgCons (wgName 3) wgNil)))))
  (wSeq (wIfS (wNot (wTst (wCall sp_is_between 3 (wB (wVar 1) (wB (wC (.int 0)) (wB (wC (.int 10)) wB0)))))) wNever wNext)
  (wSeq (wIfS (wNot (wTst (wCall sp_are_ties 2 (wB (wVar 1) (wB (wVar 2) wB0))))) wNever wNext)
  (wSeq (wIfS (wTst (wCallB rAnyD (wCons (wFz (wLc (wEnum (wCall sp_ups_by 2 (wB (wVar 1) (wB (wVar 2) wB0)))) (wgTup 2 (wgCons (wgName 5) (wgCons (wgName 6) wgNil))) wYes (wOp (rInD false) (wVar 5) (wVar 6)) [5, 6])) wNil))) wNever wNext)
  (wSeq (wIfS (wOr (wNot (wTst (wUn (rIsiD "tuple") (wVar 3)))) (wTst (wOp rNeI (wCallB rLen (wCons (wVar 3) wNil)) (wVar 1)))) wNever wNext)
  (wSeq (wFor (wEnum (wVar 3)) (wgTup 2 (wgCons (wgName 4) (wgCons (wgName 5) wgNil))) (wIfS (wNot (wTst (wCall sp_is_seen 1 (wB (wVar 5) wB0)))) wNever wNext))
  (wRet (wVar 0)))))))))
abbrev N_ups_in : List Str := ["field"]
abbrev s_ups_in : Stmt := top 21
theorem sc_ups_in : FnScope N_ups_in ["field"] (defScope s_ups_in) := ⟨rfl, rfl, rfl, by decide +kernel, rfl, by decide +kernel, by decide +kernel⟩
def w_ups_in : WS := (wRet (wCall sp_ups_by 2 (wB (wOp rIxD (wVar 0) (wC (.int 0))) (wB (wOp rIxD (wVar 0) (wC (.int 1))) wB0))))
abbrev N_covers_by : List Str := ["ups", "lot", "found", "one", "other", "far"]
abbrev s_covers_by : Stmt := top 22
theorem sc_covers_by : FnScope N_covers_by ["ups", "lot"] (defScope s_covers_by) := ⟨rfl, rfl, rfl, by decide +kernel, rfl, by decide +kernel, by decide +kernel⟩
def w_covers_by : WS := (wSeq (wSetO 2 (wLst wNil))
  (wSeq (wFor (wSeqI (wVar 1)) (wgName 3) (wFor (wSeqI (wVar 1)) (wgName 4) (wIfS (wAnd (wTst (wOp (rInD false) (wVar 4) (wOp rIxD (wVar 0) (wVar 3)))) (wNot (wTst (wCallB rAnyD (wCons (wFz (wLc (wSeqI (wVar 1)) (wgName 5) wYes (wAndV (wOp (rInD false) (wVar 5) (wOp rIxD (wVar 0) (wVar 3))) (wOp (rInD false) (wVar 4) (wOp rIxD (wVar 0) (wVar 5)))) [5])) wNil))))) (wApp 2 (wTup (wCons (wVar 3) (wCons (wVar 4) wNil)))) wNext)))
  (wRetO 2)))
abbrev N_is_spot : List Str := ["thing"]
abbrev s_is_spot : Stmt := top 41
theorem sc_is_spot : FnScope N_is_spot ["thing"] (defScope s_is_spot) := ⟨rfl, rfl, rfl, by decide +kernel, rfl, by decide +kernel, by decide +kernel⟩
def w_is_spot : WS := (wRet (wCall sp_is_between 3 (wB (wVar 0) (wB (wC (.int 0)) (wB (wOp rSubI (wC (.int 10)) (wC (.int 1))) wB0)))))
abbrev N_are_spots : List Str := ["thing", "one"]
abbrev s_are_spots : Stmt := top 42
theorem sc_are_spots : FnScope N_are_spots ["thing"] (defScope s_are_spots) := ⟨rfl, rfl, rfl, by decide +kernel, rfl, by decide +kernel, by decide +kernel⟩
def w_are_spots : WS := (wRet (wAndV (wUn (rIsiD "tuple") (wVar 0)) (wAndV (wCallB rAllD (wCons (wFz (wLc (wSeqI (wVar 0)) (wgName 1) wYes (wCall sp_is_spot 1 (wB (wVar 1) wB0)) [1])) wNil)) (wCall sp_are_rising 1 (wB (wVar 0) wB0)))))
abbrev N_is_own_form : List Str := ["term", "word"]
abbrev s_is_own_form : Stmt := top 43
theorem sc_is_own_form : FnScope N_is_own_form ["term"] (defScope s_is_own_form) := ⟨rfl, rfl, rfl, by decide +kernel, rfl, by decide +kernel, by decide +kernel⟩
def w_is_own_form : WS := (wSeq (wSet 1 (wOp rIxD (wVar 0) (wC (.int 0))))
  (wSeq (wIfS (wTst (wOp rEqS (wVar 1) (wC (.str "thing")))) (wRet (wCall sp_is_seen 1 (wB (wCut (wVar 0) (some 1) none) wB0))) wNext)
  (wSeq (wIfS (wTst (wOp rEqS (wVar 1) (wC (.str "row")))) (wRet (wCall sp_is_between 3 (wB (wOp rIxD (wVar 0) (wC (.int 2))) (wB (wC (.int 1)) (wB (wC (.int 10)) wB0))))) wNext)
  (wSeq (wIfS (wTst (wOp rEqS (wVar 1) (wC (.str "moved")))) (wRet (wCall sp_is_between 3 (wB (wOp rIxD (wVar 0) (wC (.int 2))) (wB (wOp rSubI (wC (.int 0)) (wC (.int 2000))) (wB (wC (.int 2000)) wB0))))) wNext)
  (wSeq (wIfS (wTst (wOp rEqS (wVar 1) (wC (.str "times")))) (wRet (wCall sp_is_between 3 (wB (wOp rIxD (wVar 0) (wC (.int 2))) (wB (wC (.int 1)) (wB (wC (.int 1000)) wB0))))) wNext)
  (wSeq (wIfS (wTst (wOp rEqS (wVar 1) (wC (.str "tied")))) (wRet (wAndV (wCall sp_is_spot 1 (wB (wOp rIxD (wVar 0) (wC (.int 2))) wB0)) (wAndV (wCall sp_is_spot 1 (wB (wOp rIxD (wVar 0) (wC (.int 3))) wB0)) (wOp rNeI (wOp rIxD (wVar 0) (wC (.int 2))) (wOp rIxD (wVar 0) (wC (.int 3))))))) wNext)
  (wRet (wOrV (wOp rNeS (wVar 1) (wC (.str "only"))) (wCall sp_are_spots 1 (wB (wOp rIxD (wVar 0) (wC (.int 2))) wB0))))))))))
abbrev N_is_form : List Str := ["thing"]
abbrev s_is_form : Stmt := top 44
theorem sc_is_form : FnScope N_is_form ["thing"] (defScope s_is_form) := ⟨rfl, rfl, rfl, by decide +kernel, rfl, by decide +kernel, by decide +kernel⟩
def w_is_form : WS := (wSeq (wIfS (wOr (wNot (wTst (wUn (rIsiD "tuple") (wVar 0)))) (wOr (wTst (wOp rEqD (wVar 0) (wTup wNil))) (wNot (wTst (wUn (rIsiD "str") (wOp rIxD (wVar 0) (wC (.int 0)))))))) (wRet (wC (.bool false))) wNext)
  (wRet (wAndV (wOp rEqI (wUn rLens (wOp rIxD (wVar 0) (wC (.int 0)))) (wCallB rLen (wCons (wVar 0) wNil))) (wCall sp_is_own_form 1 (wB (wVar 0) wB0)))))
abbrev N_places_in : List Str := ["term"]
abbrev s_places_in : Stmt := top 45
theorem sc_places_in : FnScope N_places_in ["term"] (defScope s_places_in) := ⟨rfl, rfl, rfl, by decide +kernel, rfl, by decide +kernel, by decide +kernel⟩
def w_places_in : WS := (wSeq (wIfS (wTst (wUn (rInG false ["beside", "below"]) (wOp rIxD (wVar 0) (wC (.int 0))))) (wRet (wTup (wCons (wC (.int 1)) (wCons (wC (.int 2)) wNil)))) wNext)
  (wRet (wIf (wTst (wUn (rInG true ["thing", "none"]) (wOp rIxD (wVar 0) (wC (.int 0))))) (wTup (wCons (wC (.int 1)) wNil)) (wTup wNil))))
abbrev N_paths_in : List Str := ["term", "found", "waiting", "path", "here", "place"]
abbrev s_paths_in : Stmt := top 46
theorem sc_paths_in : FnScope N_paths_in ["term"] (defScope s_paths_in) := ⟨rfl, rfl, rfl, by decide +kernel, rfl, by decide +kernel, by decide +kernel⟩
def w_paths_in : WS := (wSeq (wParOO 1 2 (wLst wNil) (wLst (wCons (wTup (wCons (wTup wNil) (wCons (wVar 0) wNil))) wNil)))
  (wSeq (wWhile (wTst (wOp rNeD (wPk 2) (wFz (wLst wNil)))) (wSeq (wPop 2 (wgTup 2 (wgCons (wgName 3) (wgCons (wgName 4) wgNil))))
  (wSeq (wIfS (wOr (wTst (wOp rEqI (wCallB rLen (wCons (wPk 1) wNil)) (wC (.int 20)))) (wTst (wOp rGeI (wCallB rLen (wCons (wVar 3) wNil)) (wC (.int 8))))) wNever wNext)
  (wSeq (wIfS (wNot (wTst (wCall sp_is_form 1 (wB (wVar 4) wB0)))) wNever wNext)
  (wSeq (wApp 1 (wVar 3))
  (wFor (wSeqI (wUn rRevD (wCall sp_places_in 1 (wB (wVar 4) wB0)))) (wgName 5) (wApp 2 (wTup (wCons (wTup (wStar (wVar 3) (wCons (wVar 5) wNil))) (wCons (wOp rIxD (wVar 4) (wVar 5)) wNil))))))))))
  (wRetO 1)))
abbrev N_term_at : List Str := ["term", "path", "place"]
abbrev s_term_at : Stmt := top 47
theorem sc_term_at : FnScope N_term_at ["term", "path"] (defScope s_term_at) := ⟨rfl, rfl, rfl, by decide +kernel, rfl, by decide +kernel, by decide +kernel⟩
def w_term_at : WS := (wSeq (wFor (wSeqI (wVar 1)) (wgName 2) (wSet 0 (wOp rIxD (wVar 0) (wVar 2))))
  (wRet (wVar 0)))
abbrev N_closed : List Str := ["size", "pairs", "ups", "found", "one", "other"]
abbrev s_closed : Stmt := top 48
theorem sc_closed : FnScope N_closed ["size", "pairs"] (defScope s_closed) := ⟨rfl, rfl, rfl, by decide +kernel, rfl, by decide +kernel, by decide +kernel⟩
def w_closed : WS := (wSeq (wSet 2 (wCall sp_ups_by 2 (wB (wVar 0) (wB (wVar 1) wB0))))
  (wSeq (wSetO 3 (wLst wNil))
  (wSeq (wFor (wRng (wVar 0)) (wgName 4) (wExt 3 (wLc (wSeqI (wOp rIxD (wVar 2) (wVar 4))) (wgName 5) wYes (wTup (wCons (wVar 4) (wCons (wVar 5) wNil))) [5])))
  (wRet (wCallB rTupD (wCons (wPk 3) wNil))))))
abbrev N_laid : List Str := ["one", "other", "is_under", "size", "pairs", "near", "far"]
abbrev s_laid : Stmt := top 49
theorem sc_laid : FnScope N_laid ["one", "other", "is_under"] (defScope s_laid) := ⟨rfl, rfl, rfl, by decide +kernel, rfl, by decide +kernel, by decide +kernel⟩
def w_laid : WS := (wSeq (wSet 3 (wOp rIxD (wVar 0) (wC (.int 0))))
  (wSeq (wSetO 4 (wCat (wFz (wCallF rListD (wCons (wOp rIxD (wVar 0) (wC (.int 1))) wNil))) (wFz (wLc (wSeqI (wOp rIxD (wVar 1) (wC (.int 1)))) (wgTup 2 (wgCons (wgName 5) (wgCons (wgName 6) wgNil))) wYes (wTup (wCons (wOp rAddI (wVar 5) (wVar 3)) (wCons (wOp rAddI (wVar 6) (wVar 3)) wNil))) [5, 6]))))
  (wSeq (wIfS (wTst (wVar 2)) (wFor (wRng (wVar 3)) (wgName 5) (wExt 4 (wLc (wRng (wOp rIxD (wVar 1) (wC (.int 0)))) (wgName 6) wYes (wTup (wCons (wVar 5) (wCons (wOp rAddI (wVar 6) (wVar 3)) wNil))) [6]))) wNext)
  (wRet (wTup (wCons (wOp rAddI (wVar 3) (wOp rIxD (wVar 1) (wC (.int 0)))) (wCons (wCallB rTupD (wCons (wFz (wCallF rSortT (wCons (wPk 4) wNil))) wNil)) (wCons (wOp rAddT (wOp rIxD (wVar 0) (wC (.int 2))) (wOp rIxD (wVar 1) (wC (.int 2)))) wNil))))))))
theorem ok_need_field (T : Tx w K mg) {f : Addr} {fd : FuncData} (F : FnP K "need_field" s_need_field f fd) (hm : mg "need_field" = some (.ref f)) (C_is_between : Cal P w K mg base W "is_between" 2 3 sp_is_between) (C_are_ties : Cal P w K mg base W "are_ties" 4 2 sp_are_ties) (C_ups_by : Cal P w K mg base W "ups_by" 1 2 sp_ups_by) (C_is_seen : Cal P w K mg base W "is_seen" 3 1 sp_is_seen) (rd : ∀ bs Q, sp_need_field bs Q → w_need_field { nx := fun _ => Q .none, rt := Q } (bs ++ List.replicate (N_need_field.length - bs.length) .no)) : Cal P w K mg base W "need_field" 5 1 sp_need_field := by
  have sc := sc_need_field
  refine ⟨f, fd, ["thing"], fn_d F sc (wb := w_need_field) (fun cdv A outer s H E hr => ?_) rd, hm, F.kp, F.bindsN fun _ _ _ _ _ _ us hl => match us, hl with | [_], _ => rfl⟩
  exact (ds_cons (ds_if (PW.pt (dw_or (dt_not (dt_val (de_isi (de_var 0) (by rfl) T.n_isinstance (by rfl) T.n_tuple PyProof.Rows.boot_tuple))) (dw_or1 (dt_cmp od_neI (de_callB cp_len (by rfl) T.n_len PySem.boot_len (dp_cons (DE.pk (de_var 0)) dp_nil)) de_int (nomark _))))) (ds_one ds_never) ds_nil)
    (ds_cons (ds_asg (de_var 0) (dg_tup rfl (dgs_cons (dg_name (i := 1) sc.nd rfl (by first | exact Or.inl rfl | exact Or.inr rfl)) (dgs_cons (dg_name (i := 2) sc.nd rfl (by first | exact Or.inl rfl | exact Or.inr rfl)) (dgs_cons (dg_name (i := 3) sc.nd rfl (by first | exact Or.inl rfl | exact Or.inr rfl)) dgs_nil)))))
    (ds_cons (ds_if (dt_not (dt_val (de_cal C_is_between (hr.mono (by decide)) (by rfl) (db_cons (de_var 1) (db_cons de_int (db_cons (de_globI (by rfl) T.i_MOST_THINGS) db_nil)))))) (ds_one ds_never) ds_nil)
    (ds_cons (ds_if (dt_not (dt_val (de_cal C_are_ties (hr.mono (by decide)) (by rfl) (db_cons (de_var 1) (db_cons (de_var 2) db_nil))))) (ds_one ds_never) ds_nil)
    (ds_cons (ds_if (dt_val (de_callB (cp_any rfl) (by rfl) T.n_any PyProof.Rows.boot_any (dp_cons (DE.pk (DF.de (df_lc (own := [("one", 5), ("some", 6)]) rfl sc.nd (di_enum (de_cal C_ups_by (hr.mono (by decide)) (by rfl) (db_cons (de_var 1) (db_cons (de_var 2) db_nil))) (by rfl) T.n_enumerate) (blkOk_by (sc := defScope s_need_field) (own := [("one", 5), ("some", 6)]) (N := N_need_field) (by decide +kernel)) (fun _ _ _ _ _ => (dg_tup rfl (dgs_cons (dg_name (i := 5) sc.nd rfl (by first | exact Or.inl rfl | exact Or.inr rfl)) (dgs_cons (dg_name (i := 6) sc.nd rfl (by first | exact Or.inl rfl | exact Or.inr rfl)) dgs_nil)))) (fun _ _ _ _ _ => dts_nil) (fun _ _ _ _ _ => (de_cmpP (op_inP op_in_seq) (DE.pk (de_var 5)) (DE.pk (de_var 6)) (by rfl)))))) dp_nil))) (ds_one ds_never) ds_nil)
    (ds_cons (ds_if (PW.pt (dw_or (dt_not (dt_val (de_isi (de_var 3) (by rfl) T.n_isinstance (by rfl) T.n_tuple PyProof.Rows.boot_tuple))) (dw_or1 (dt_cmp od_neI (de_callB cp_len (by rfl) T.n_len PySem.boot_len (dp_cons (DE.pk (de_var 3)) dp_nil)) (de_var 1) (nomark _))))) (ds_one ds_never) ds_nil)
    (ds_cons (ds_for PassesOwn.never rfl (di_enum (de_var 3) (by rfl) T.n_enumerate) (dg_tup rfl (dgs_cons (dg_name (i := 4) sc.nd rfl (by first | exact Or.inl rfl | exact Or.inr rfl)) (dgs_cons (dg_name (i := 5) sc.nd rfl (by first | exact Or.inl rfl | exact Or.inr rfl)) dgs_nil))) (ds_one (ds_if (dt_not (dt_val (de_cal C_is_seen (hr.mono (by decide)) (by rfl) (db_cons (de_var 5) db_nil)))) (ds_one ds_never) ds_nil)))
    (ds_one (ds_ret (de_var 0))))))))))
theorem ok_ups_in (T : Tx w K mg) {f : Addr} {fd : FuncData} (F : FnP K "ups_in" s_ups_in f fd) (hm : mg "ups_in" = some (.ref f)) (C_ups_by : Cal P w K mg base W "ups_by" 1 2 sp_ups_by) (rd : ∀ bs Q, sp_ups_in bs Q → w_ups_in { nx := fun _ => Q .none, rt := Q } (bs ++ List.replicate (N_ups_in.length - bs.length) .no)) : Cal P w K mg base W "ups_in" 2 1 sp_ups_in := by
  have sc := sc_ups_in
  refine ⟨f, fd, ["field"], fn_d F sc (wb := w_ups_in) (fun cdv A outer s H E hr => ?_) rd, hm, F.kp, F.bindsN fun _ _ _ _ _ _ us hl => match us, hl with | [_], _ => rfl⟩
  exact (ds_one (ds_ret (de_cal C_ups_by (hr.mono (by decide)) (by rfl) (db_cons (de_ix (DE.pk (de_var 0)) de_int (fun _ _ => rfl)) (db_cons (de_ix (DE.pk (de_var 0)) de_int (fun _ _ => rfl)) db_nil)))))
theorem ok_covers_by (T : Tx w K mg) {f : Addr} {fd : FuncData} (F : FnP K "covers_by" s_covers_by f fd) (hm : mg "covers_by" = some (.ref f))  (rd : ∀ bs Q, sp_covers_by bs Q → w_covers_by { nx := fun _ => Q .none, rt := Q } (bs ++ List.replicate (N_covers_by.length - bs.length) .no)) : Cal P w K mg base W "covers_by" 1 2 sp_covers_by := by
  have sc := sc_covers_by
  refine ⟨f, fd, ["ups", "lot"], fn_d F sc (wb := w_covers_by) (fun cdv A outer s H E hr => ?_) rd, hm, F.kp, F.bindsN fun _ _ _ _ _ _ us hl => match us, hl with | [_, _], _ => rfl⟩
  exact (ds_cons (ds_setO (i := 2) sc.nd rfl (by first | exact Or.inl rfl | exact Or.inr rfl) (df_lst da_nil))
    (ds_cons (ds_for PassesOwn.never rfl (di_seq (de_var 1)) (dg_name (i := 3) sc.nd rfl (by first | exact Or.inl rfl | exact Or.inr rfl)) (ds_one (ds_for PassesOwn.never rfl (di_seq (de_var 1)) (dg_name (i := 4) sc.nd rfl (by first | exact Or.inl rfl | exact Or.inr rfl)) (ds_one (ds_if (PW.pt (dw_and (dt_cmpP (op_inP op_in_seq) (DE.pk (de_var 4)) (DE.pk (de_ix (DE.pk (de_var 0)) (de_var 3) (fun _ _ => rfl))) (by rfl)) (dw_and1 (dt_not (dt_val (de_callB (cp_any rfl) (by rfl) T.n_any PyProof.Rows.boot_any (dp_cons (DE.pk (DF.de (df_lc (own := [("far", 5)]) rfl sc.nd (di_seq (de_var 1)) (blkOk_by (sc := defScope s_covers_by) (own := [("far", 5)]) (N := N_covers_by) (by decide +kernel)) (fun _ _ _ _ _ => (dg_name (i := 5) sc.nd rfl (by first | exact Or.inl rfl | exact Or.inr rfl))) (fun _ _ _ _ _ => dts_nil) (fun _ _ _ _ _ => (de_and (de_cmpP (op_inP op_in_seq) (DE.pk (de_var 5)) (DE.pk (de_ix (DE.pk (de_var 0)) (de_var 3) (fun _ _ => rfl))) (by rfl)) (de_one (de_cmpP (op_inP op_in_seq) (DE.pk (de_var 4)) (DE.pk (de_ix (DE.pk (de_var 0)) (de_var 5) (fun _ _ => rfl))) (by rfl)))))))) dp_nil))))))) (ds_one (ds_app 2 (de_tup (da_cons (de_var 3) (da_cons (de_var 4) da_nil))))) ds_nil)))))
    (ds_one (ds_retO 2))))
theorem ok_is_spot (T : Tx w K mg) {f : Addr} {fd : FuncData} (F : FnP K "is_spot" s_is_spot f fd) (hm : mg "is_spot" = some (.ref f)) (C_is_between : Cal P w K mg base W "is_between" 2 3 sp_is_between) (rd : ∀ bs Q, sp_is_spot bs Q → w_is_spot { nx := fun _ => Q .none, rt := Q } (bs ++ List.replicate (N_is_spot.length - bs.length) .no)) : Cal P w K mg base W "is_spot" 3 1 sp_is_spot := by
  have sc := sc_is_spot
  refine ⟨f, fd, ["thing"], fn_d F sc (wb := w_is_spot) (fun cdv A outer s H E hr => ?_) rd, hm, F.kp, F.bindsN fun _ _ _ _ _ _ us hl => match us, hl with | [_], _ => rfl⟩
  exact (ds_one (ds_ret (de_cal C_is_between (hr.mono (by decide)) (by rfl) (db_cons (de_var 0) (db_cons de_int (db_cons (de_bin od_sub (de_globI (by rfl) T.i_MOST_THINGS) de_int) db_nil))))))
theorem ok_are_spots (T : Tx w K mg) {f : Addr} {fd : FuncData} (F : FnP K "are_spots" s_are_spots f fd) (hm : mg "are_spots" = some (.ref f)) (C_are_rising : Cal P w K mg base W "are_rising" 1 1 sp_are_rising) (C_is_spot : Cal P w K mg base W "is_spot" 3 1 sp_is_spot) (rd : ∀ bs Q, sp_are_spots bs Q → w_are_spots { nx := fun _ => Q .none, rt := Q } (bs ++ List.replicate (N_are_spots.length - bs.length) .no)) : Cal P w K mg base W "are_spots" 4 1 sp_are_spots := by
  have sc := sc_are_spots
  refine ⟨f, fd, ["thing"], fn_d F sc (wb := w_are_spots) (fun cdv A outer s H E hr => ?_) rd, hm, F.kp, F.bindsN fun _ _ _ _ _ _ us hl => match us, hl with | [_], _ => rfl⟩
  exact (ds_one (ds_ret (de_and (de_isi (de_var 0) (by rfl) T.n_isinstance (by rfl) T.n_tuple PyProof.Rows.boot_tuple) (de_and (de_callB (cp_all rfl) (by rfl) T.n_all PyProof.Rows.boot_all (dp_cons (DE.pk (DF.de (df_lc (own := [("one", 1)]) rfl sc.nd (di_seq (de_var 0)) (blkOk_by (sc := defScope s_are_spots) (own := [("one", 1)]) (N := N_are_spots) (by decide +kernel)) (fun _ _ _ _ _ => (dg_name (i := 1) sc.nd rfl (by first | exact Or.inl rfl | exact Or.inr rfl))) (fun _ _ _ _ _ => dts_nil) (fun _ _ _ _ _ => (de_cal C_is_spot (hr.mono (by decide)) (by rfl) (db_cons (de_var 1) db_nil)))))) dp_nil)) (de_one (de_cal C_are_rising (hr.mono (by decide)) (by rfl) (db_cons (de_var 0) db_nil)))))))
theorem ok_is_own_form (T : Tx w K mg) {f : Addr} {fd : FuncData} (F : FnP K "is_own_form" s_is_own_form f fd) (hm : mg "is_own_form" = some (.ref f)) (C_is_seen : Cal P w K mg base W "is_seen" 3 1 sp_is_seen) (C_is_between : Cal P w K mg base W "is_between" 2 3 sp_is_between) (C_is_spot : Cal P w K mg base W "is_spot" 3 1 sp_is_spot) (C_are_spots : Cal P w K mg base W "are_spots" 4 1 sp_are_spots) (rd : ∀ bs Q, sp_is_own_form bs Q → w_is_own_form { nx := fun _ => Q .none, rt := Q } (bs ++ List.replicate (N_is_own_form.length - bs.length) .no)) : Cal P w K mg base W "is_own_form" 5 1 sp_is_own_form := by
  have sc := sc_is_own_form
  refine ⟨f, fd, ["term"], fn_d F sc (wb := w_is_own_form) (fun cdv A outer s H E hr => ?_) rd, hm, F.kp, F.bindsN fun _ _ _ _ _ _ us hl => match us, hl with | [_], _ => rfl⟩
  exact (ds_cons (ds_set (i := 1) sc.nd rfl (by first | exact Or.inl rfl | exact Or.inr rfl) (de_ix (DE.pk (de_var 0)) de_int (fun _ _ => rfl)))
    (ds_cons (ds_if (dt_cmp od_eqS (de_var 1) (de_globS (by rfl) T.s_THING) (nomark _)) (ds_one (ds_ret (de_cal C_is_seen (hr.mono (by decide)) (by rfl) (db_cons (de_cut (de_var 0) po_lit po_no) db_nil)))) ds_nil)
    (ds_cons (ds_if (dt_cmp od_eqS (de_var 1) (de_globS (by rfl) T.s_ROW) (nomark _)) (ds_one (ds_ret (de_cal C_is_between (hr.mono (by decide)) (by rfl) (db_cons (de_ix (DE.pk (de_var 0)) de_int (fun _ _ => rfl)) (db_cons de_int (db_cons (de_globI (by rfl) T.i_MOST_THINGS) db_nil)))))) ds_nil)
    (ds_cons (ds_if (dt_cmp od_eqS (de_var 1) (de_globS (by rfl) T.s_MOVED) (nomark _)) (ds_one (ds_ret (de_cal C_is_between (hr.mono (by decide)) (by rfl) (db_cons (de_ix (DE.pk (de_var 0)) de_int (fun _ _ => rfl)) (db_cons (de_bin od_sub de_int (de_globI (by rfl) T.i_MOST_MOVE)) (db_cons (de_globI (by rfl) T.i_MOST_MOVE) db_nil)))))) ds_nil)
    (ds_cons (ds_if (dt_cmp od_eqS (de_var 1) (de_globS (by rfl) T.s_TIMES) (nomark _)) (ds_one (ds_ret (de_cal C_is_between (hr.mono (by decide)) (by rfl) (db_cons (de_ix (DE.pk (de_var 0)) de_int (fun _ _ => rfl)) (db_cons de_int (db_cons (de_globI (by rfl) T.i_MOST_TIMES) db_nil)))))) ds_nil)
    (ds_cons (ds_if (dt_cmp od_eqS (de_var 1) (de_globS (by rfl) T.s_TIED) (nomark _)) (ds_one (ds_ret (de_and (de_cal C_is_spot (hr.mono (by decide)) (by rfl) (db_cons (de_ix (DE.pk (de_var 0)) de_int (fun _ _ => rfl)) db_nil)) (de_and (de_cal C_is_spot (hr.mono (by decide)) (by rfl) (db_cons (de_ix (DE.pk (de_var 0)) de_int (fun _ _ => rfl)) db_nil)) (de_one (de_cmp od_neI (de_ix (DE.pk (de_var 0)) de_int (fun _ _ => rfl)) (de_ix (DE.pk (de_var 0)) de_int (fun _ _ => rfl)) (nomark _))))))) ds_nil)
    (ds_one (ds_ret (de_or (de_cmp od_neS (de_var 1) (de_globS (by rfl) T.s_ONLY) (nomark _)) (de_one (de_cal C_are_spots (hr.mono (by decide)) (by rfl) (db_cons (de_ix (DE.pk (de_var 0)) de_int (fun _ _ => rfl)) db_nil))))))))))))
theorem ok_is_form (T : Tx w K mg) {f : Addr} {fd : FuncData} (F : FnP K "is_form" s_is_form f fd) (hm : mg "is_form" = some (.ref f)) (C_is_own_form : Cal P w K mg base W "is_own_form" 5 1 sp_is_own_form) (rd : ∀ bs Q, sp_is_form bs Q → w_is_form { nx := fun _ => Q .none, rt := Q } (bs ++ List.replicate (N_is_form.length - bs.length) .no)) : Cal P w K mg base W "is_form" 6 1 sp_is_form := by
  have sc := sc_is_form
  refine ⟨f, fd, ["thing"], fn_d F sc (wb := w_is_form) (fun cdv A outer s H E hr => ?_) rd, hm, F.kp, F.bindsN fun _ _ _ _ _ _ us hl => match us, hl with | [_], _ => rfl⟩
  have hu64 := hr.units
  have hu1 := hu_of hr
  exact (ds_cons (ds_if (PW.pt (dw_or (dt_not (dt_val (de_isi (de_var 0) (by rfl) T.n_isinstance (by rfl) T.n_tuple PyProof.Rows.boot_tuple))) (dw_or (dt_cmpP (op_eqP hu64) (DE.pk (de_var 0)) (DE.pk (de_tup da_nil)) (nomark _)) (dw_or1 (dt_not (dt_val (de_isi (de_ix (DE.pk (de_var 0)) de_int (fun _ _ => rfl)) (by rfl) T.n_isinstance (by rfl) T.n_str PyProof.Rows.boot_str))))))) (ds_one (ds_ret de_bl)) ds_nil)
    (ds_one (ds_ret (de_and (de_cmp od_eqI (de_lget hu1 T.l_LENGTHS (de_ix (DE.pk (de_var 0)) de_int (fun _ _ => rfl))) (de_callB cp_len (by rfl) T.n_len PySem.boot_len (dp_cons (DE.pk (de_var 0)) dp_nil)) (nomark _)) (de_one (de_cal C_is_own_form (hr.mono (by decide)) (by rfl) (db_cons (de_var 0) db_nil)))))))
theorem ok_places_in (T : Tx w K mg) {f : Addr} {fd : FuncData} (F : FnP K "places_in" s_places_in f fd) (hm : mg "places_in" = some (.ref f))  (rd : ∀ bs Q, sp_places_in bs Q → w_places_in { nx := fun _ => Q .none, rt := Q } (bs ++ List.replicate (N_places_in.length - bs.length) .no)) : Cal P w K mg base W "places_in" 1 1 sp_places_in := by
  have sc := sc_places_in
  refine ⟨f, fd, ["term"], fn_d F sc (wb := w_places_in) (fun cdv A outer s H E hr => ?_) rd, hm, F.kp, F.bindsN fun _ _ _ _ _ _ us hl => match us, hl with | [_], _ => rfl⟩
  exact (ds_cons (ds_if (dt_inG (neg := false) op_in_seq (de_ix (DE.pk (de_var 0)) de_int (fun _ _ => rfl)) (by rfl) T.g_DOUBLE T.t_DOUBLE) (ds_one (ds_ret (de_tup (da_cons de_int (da_cons de_int da_nil))))) ds_nil)
    (ds_one (ds_ret (de_if (dt_inG (neg := true) op_notIn_seq (de_ix (DE.pk (de_var 0)) de_int (fun _ _ => rfl)) (by rfl) T.g_LEAVES T.t_LEAVES) (de_tup (da_cons de_int da_nil)) (de_tup da_nil)))))
theorem ok_paths_in (T : Tx w K mg) {f : Addr} {fd : FuncData} (F : FnP K "paths_in" s_paths_in f fd) (hm : mg "paths_in" = some (.ref f)) (C_is_form : Cal P w K mg base W "is_form" 6 1 sp_is_form) (C_places_in : Cal P w K mg base W "places_in" 1 1 sp_places_in) (rd : ∀ bs Q, sp_paths_in bs Q → w_paths_in { nx := fun _ => Q .none, rt := Q } (bs ++ List.replicate (N_paths_in.length - bs.length) .no)) : Cal P w K mg base W "paths_in" 7 1 sp_paths_in := by
  have sc := sc_paths_in
  refine ⟨f, fd, ["term"], fn_d F sc (wb := w_paths_in) (fun cdv A outer s H E hr => ?_) rd, hm, F.kp, F.bindsN fun _ _ _ _ _ _ us hl => match us, hl with | [_], _ => rfl⟩
  have hu64 := hr.units
  exact (ds_cons (ds_parOO (i := 1) (j := 2) rfl sc.nd rfl rfl (by decide) rfl rfl (df_lst da_nil) (df_lst (da_cons (de_tup (da_cons (de_tup da_nil) (da_cons (de_var 0) da_nil))) da_nil)) (by rfl))
    (ds_cons (ds_while PassesOwn.never (dt_cmpP (op_neP hu64) (dk_var 2) (DE.pk (DF.de (df_lst da_nil))) (nomark _)) (ds_cons (ds_pop 2 (dg_tup rfl (dgs_cons (dg_name (i := 3) sc.nd rfl (by first | exact Or.inl rfl | exact Or.inr rfl)) (dgs_cons (dg_name (i := 4) sc.nd rfl (by first | exact Or.inl rfl | exact Or.inr rfl)) dgs_nil))))
    (ds_cons (ds_if (PW.pt (dw_or (dt_cmp od_eqI (de_callB cp_len (by rfl) T.n_len PySem.boot_len (dp_cons (dk_var 1) dp_nil)) (de_globI (by rfl) T.i_MOST_WORDS) (nomark _)) (dw_or1 (dt_cmp (od_ge) (de_callB cp_len (by rfl) T.n_len PySem.boot_len (dp_cons (DE.pk (de_var 3)) dp_nil)) (de_globI (by rfl) T.i_MOST_DEEP) (nomark _))))) (ds_one ds_never) ds_nil)
    (ds_cons (ds_if (dt_not (dt_val (de_cal C_is_form (hr.mono (by decide)) (by rfl) (db_cons (de_var 4) db_nil)))) (ds_one ds_never) ds_nil)
    (ds_cons (ds_app 1 (de_var 3))
    (ds_one (ds_for PassesOwn.never rfl (di_seq (de_rev (de_cal C_places_in (hr.mono (by decide)) (by rfl) (db_cons (de_var 4) db_nil)))) (dg_name (i := 5) sc.nd rfl (by first | exact Or.inl rfl | exact Or.inr rfl)) (ds_one (ds_app 2 (de_tup (da_cons (de_tup (da_star (DE.pk (de_var 3)) (da_cons (de_var 5) da_nil))) (da_cons (de_ix (DE.pk (de_var 4)) (de_var 5) (fun _ _ => rfl)) da_nil))))))))))))
    (ds_one (ds_retO 1))))
theorem ok_term_at (T : Tx w K mg) {f : Addr} {fd : FuncData} (F : FnP K "term_at" s_term_at f fd) (hm : mg "term_at" = some (.ref f))  (rd : ∀ bs Q, sp_term_at bs Q → w_term_at { nx := fun _ => Q .none, rt := Q } (bs ++ List.replicate (N_term_at.length - bs.length) .no)) : Cal P w K mg base W "term_at" 1 2 sp_term_at := by
  have sc := sc_term_at
  refine ⟨f, fd, ["term", "path"], fn_d F sc (wb := w_term_at) (fun cdv A outer s H E hr => ?_) rd, hm, F.kp, F.bindsN fun _ _ _ _ _ _ us hl => match us, hl with | [_, _], _ => rfl⟩
  exact (ds_cons (ds_for PassesOwn.never rfl (di_seq (de_var 1)) (dg_name (i := 2) sc.nd rfl (by first | exact Or.inl rfl | exact Or.inr rfl)) (ds_one (ds_set (i := 0) sc.nd rfl (by first | exact Or.inl rfl | exact Or.inr rfl) (de_ix (DE.pk (de_var 0)) (de_var 2) (fun _ _ => rfl)))))
    (ds_one (ds_ret (de_var 0))))
theorem ok_closed (T : Tx w K mg) {f : Addr} {fd : FuncData} (F : FnP K "closed" s_closed f fd) (hm : mg "closed" = some (.ref f)) (C_ups_by : Cal P w K mg base W "ups_by" 1 2 sp_ups_by) (rd : ∀ bs Q, sp_closed bs Q → w_closed { nx := fun _ => Q .none, rt := Q } (bs ++ List.replicate (N_closed.length - bs.length) .no)) : Cal P w K mg base W "closed" 2 2 sp_closed := by
  have sc := sc_closed
  refine ⟨f, fd, ["size", "pairs"], fn_d F sc (wb := w_closed) (fun cdv A outer s H E hr => ?_) rd, hm, F.kp, F.bindsN fun _ _ _ _ _ _ us hl => match us, hl with | [_, _], _ => rfl⟩
  exact (ds_cons (ds_set (i := 2) sc.nd rfl (by first | exact Or.inl rfl | exact Or.inr rfl) (de_cal C_ups_by (hr.mono (by decide)) (by rfl) (db_cons (de_var 0) (db_cons (de_var 1) db_nil))))
    (ds_cons (ds_setO (i := 3) sc.nd rfl (by first | exact Or.inl rfl | exact Or.inr rfl) (df_lst da_nil))
    (ds_cons (ds_for PassesOwn.never rfl (di_rng (de_var 0) (by rfl) T.n_range) (dg_name (i := 4) sc.nd rfl (by first | exact Or.inl rfl | exact Or.inr rfl)) (ds_one (ds_ext 3 (df_lc (own := [("other", 5)]) rfl sc.nd (di_seq (de_ix (DE.pk (de_var 2)) (de_var 4) (fun _ _ => rfl))) (blkOk_by (sc := defScope s_closed) (own := [("other", 5)]) (N := N_closed) (by decide +kernel)) (fun _ _ _ _ _ => (dg_name (i := 5) sc.nd rfl (by first | exact Or.inl rfl | exact Or.inr rfl))) (fun _ _ _ _ _ => dts_nil) (fun _ _ _ _ _ => (de_tup (da_cons (de_var 4) (da_cons (de_var 5) da_nil))))))))
    (ds_one (ds_ret (de_callT cp_tuple (by rfl) T.n_tuple PyProof.Rows.boot_tuple (dp_cons (dk_var 3) dp_nil)))))))
theorem ok_laid (T : Tx w K mg) {f : Addr} {fd : FuncData} (F : FnP K "laid" s_laid f fd) (hm : mg "laid" = some (.ref f))  (rd : ∀ bs Q, sp_laid bs Q → w_laid { nx := fun _ => Q .none, rt := Q } (bs ++ List.replicate (N_laid.length - bs.length) .no)) : Cal P w K mg base W "laid" 1 3 sp_laid := by
  have sc := sc_laid
  refine ⟨f, fd, ["one", "other", "is_under"], fn_d F sc (wb := w_laid) (fun cdv A outer s H E hr => ?_) rd, hm, F.kp, F.bindsN fun _ _ _ _ _ _ us hl => match us, hl with | [_, _, _], _ => rfl⟩
  have hu64 := hr.units
  exact (ds_cons (ds_set (i := 3) sc.nd rfl (by first | exact Or.inl rfl | exact Or.inr rfl) (de_ix (DE.pk (de_var 0)) de_int (fun _ _ => rfl)))
    (ds_cons (ds_setO (i := 4) sc.nd rfl (by first | exact Or.inl rfl | exact Or.inr rfl) (df_cat (DE.pk (DF.de (df_callT cf_list (by rfl) T.n_list PyProof.Rows.boot_list (dp_cons (DE.pk (de_ix (DE.pk (de_var 0)) de_int (fun _ _ => rfl))) dp_nil)))) (DE.pk (DF.de (df_lc (own := [("near", 5), ("far", 6)]) rfl sc.nd (di_seq (de_ix (DE.pk (de_var 1)) de_int (fun _ _ => rfl))) (blkOk_by (sc := defScope s_laid) (own := [("near", 5), ("far", 6)]) (N := N_laid) (by decide +kernel)) (fun _ _ _ _ _ => (dg_tup rfl (dgs_cons (dg_name (i := 5) sc.nd rfl (by first | exact Or.inl rfl | exact Or.inr rfl)) (dgs_cons (dg_name (i := 6) sc.nd rfl (by first | exact Or.inl rfl | exact Or.inr rfl)) dgs_nil)))) (fun _ _ _ _ _ => dts_nil) (fun _ _ _ _ _ => (de_tup (da_cons (de_bin od_add (de_var 5) (de_var 3)) (da_cons (de_bin od_add (de_var 6) (de_var 3)) da_nil)))))))))
    (ds_cons (ds_if (dt_val (de_var 2)) (ds_one (ds_for PassesOwn.never rfl (di_rng (de_var 3) (by rfl) T.n_range) (dg_name (i := 5) sc.nd rfl (by first | exact Or.inl rfl | exact Or.inr rfl)) (ds_one (ds_ext 4 (df_lc (own := [("far", 6)]) rfl sc.nd (di_rng (de_ix (DE.pk (de_var 1)) de_int (fun _ _ => rfl)) (by rfl) T.n_range) (blkOk_by (sc := defScope s_laid) (own := [("far", 6)]) (N := N_laid) (by decide +kernel)) (fun _ _ _ _ _ => (dg_name (i := 6) sc.nd rfl (by first | exact Or.inl rfl | exact Or.inr rfl))) (fun _ _ _ _ _ => dts_nil) (fun _ _ _ _ _ => (de_tup (da_cons (de_var 5) (da_cons (de_bin od_add (de_var 6) (de_var 3)) da_nil))))))))) ds_nil)
    (ds_one (ds_ret (de_tup (da_cons (de_bin od_add (de_var 3) (de_ix (DE.pk (de_var 1)) de_int (fun _ _ => rfl))) (da_cons (de_callT cp_tuple (by rfl) T.n_tuple PyProof.Rows.boot_tuple (dp_cons (DE.pk (DF.de (df_callB (cf_sorted hu64) (by rfl) T.n_sorted PyProof.Rows.boot_sorted (dp_cons (dk_var 4) dp_nil)))) dp_nil)) (da_cons (de_bin od_addT (de_ix (DE.pk (de_var 0)) de_int (fun _ _ => rfl)) (de_ix (DE.pk (de_var 1)) de_int (fun _ _ => rfl))) da_nil)))))))))
end Qp
set_option maxHeartbeats 2000000
namespace Qp
open PySem PySem.Spec PyProof.Rows L2 Qd
theorem rd_are_ties : ∀ bs Q, sp_are_ties bs Q → w_are_ties { nx := fun _ => Q .none, rt := Q } (bs ++ List.replicate (N_are_ties.length - bs.length) .no) := by
  rintro bs Q ⟨F, h, rfl, q⟩
  have h45 := ties_45 h
  refine if_f (or_f (not_s fun Q q => q) (or_f (fun Q q => ⟨trivial, ?_⟩) (not_s (val_tst fun Q1 q1 => ?_)))) ?_
  · show Q (decide ((45 : Int) < (((tiesL F.n F.lt).map npr).length : Int)))
    rw [List.length_map, decide_eq_false (by omega)]
    exact q
  · refine val_all npr (fun _ => true) (tiesL F.n F.lt) (by omega) (fun Q q => q) (fun x hx Q1 q1 => ?_) _ (by rw [all_true]; exact q1)
    obtain ⟨h1, h2, h3⟩ := mem_ties.mp hx
    exact ⟨rfl, F.n, x.1, x.2, rfl, h1, h2, fun z => (by rw [z, h.irr] at h3; cases h3), q1⟩
  · exact ⟨rfl, _, rfl, .inr ⟨_, rfl, by omega, ties_sorted _ _⟩, q⟩
theorem rd_ups_in : ∀ bs Q, sp_ups_in bs Q → w_ups_in { nx := fun _ => Q .none, rt := Q } (bs ++ List.replicate (N_ups_in.length - bs.length) .no) := by
  rintro bs Q ⟨F, h, rfl, q⟩
  have h45 := ties_45 h
  refine ⟨_, rfl, _, rfl, rfl, F.n, tiesL F.n F.lt, _, h.n, fun x hx => ?_, by omega, .inl rfl, rfl, ?_⟩
  · obtain ⟨h1, h2, _⟩ := mem_ties.mp hx
    exact ⟨h1, h2⟩
  · rw [memR_ties h, clo_self h.rng h.tr]
    exact q
end Qp
set_option maxHeartbeats 2000000
namespace Qp
open PySem PySem.Spec PyProof.Rows L2 Qd
theorem andV_t {wa wb : WE} {ρ : En} {Q : PyData → Prop} (ha : Val wa ρ (.bool true)) (hb : wb ρ Q) : wAndV wa wb ρ Q := ha _ (by
  show if true = true then wb ρ Q else Q (.bool false)
  rw [if_pos rfl]
  exact hb)
theorem rd_is_spot : ∀ bs Q, sp_is_spot bs Q → w_is_spot { nx := fun _ => Q .none, rt := Q } (bs ++ List.replicate (N_is_spot.length - bs.length) .no) := by
  rintro bs Q ⟨i, rfl, hi, q⟩
  refine ⟨trivial, rfl, i, 0, 10 - 1, rfl, ?_⟩
  rw [decide_eq_true (by omega), decide_eq_true (by omega)]
  exact q
theorem rd_are_spots : ∀ bs Q, sp_are_spots bs Q → w_are_spots { nx := fun _ => Q .none, rt := Q } (bs ++ List.replicate (N_are_spots.length - bs.length) .no) := by
  rintro bs Q ⟨l, rfl, hi, hp, q⟩
  have ok : LotOk 10 l := ⟨fun i h => Nat.lt_succ_of_le (hi i h), hp⟩
  have hl : l.length ≤ 10 := by
    rw [lot_filter ok]
    exact Nat.le_trans (List.length_filter_le _ _) (by rw [List.length_range]; exact Nat.le_refl _)
  refine andV_t (fun Q q => q) (andV_t (fun Q q => ?_) ⟨rfl, _, rfl, .inl ⟨l, rfl, by omega, hp⟩, q⟩)
  refine val_all (fun i : Nat => PyData.int (i : Int)) (fun _ => true) l (by omega) (fun Q q => q) (fun x hx Q1 q1 => ⟨rfl, x, rfl, hi x hx, q1⟩) _ ?_
  rw [all_true]
  exact q
end Qp
set_option maxHeartbeats 2000000
namespace Qp
open PySem PySem.Spec PyProof.Rows L2 Qd
def wordT : Tm → Str
  | .thing _ _ => "thing"
  | .nil => "none"
  | .dbl u _ _ => if u then "below" else "beside"
  | .one o _ => opS o
def tailT : Tm → List PyData
  | .thing w h => [.int w, .int h]
  | .nil => []
  | .dbl _ a b => [eT a, eT b]
  | .one o a => eT a :: opA o
theorem eT_eq (t : Tm) : eT t = .tuple (.str (wordT t) :: tailT t) := by cases t <;> rfl
theorem atI_nat {α : Type} (xs : List α) (k : Nat) (h : k < xs.length) : atI xs (k : Int) = some xs[k] := by
  unfold atI ixN
  rw [if_pos (by omega)]
  simp [h]
theorem rd_places_in : ∀ bs Q, sp_places_in bs Q → w_places_in { nx := fun _ => Q .none, rt := Q } (bs ++ List.replicate (N_places_in.length - bs.length) .no) := by
  rintro bs Q ⟨t, rfl, q⟩
  have h0 : Val (wOp Qd.rIxD (wVar 0) (wC (.int 0))) [Bd.val (eT t)] (.str (wordT t)) := fun Q q => by
    rw [eT_eq]
    exact ⟨_, atI_nat (.str (wordT t) :: tailT t) 0 (Nat.zero_lt_succ _), q⟩
  have hz : 2 ≤ sizeLine := by rw [sizeLine_eq]; decide
  have hd : Tst (wTst (wUn (rInG false ["beside", "below"]) (wOp Qd.rIxD (wVar 0) (wC (.int 0))))) [Bd.val (eT t)] ((["beside", "below"] : List Str).contains (wordT t)) := fun Q q => h0 _ q
  have hl : Tst (wTst (wUn (rInG true ["thing", "none"]) (wOp Qd.rIxD (wVar 0) (wC (.int 0))))) [Bd.val (eT t)] (!(["thing", "none"] : List Str).contains (wordT t)) := fun Q q => h0 _ q
  cases t with
  | dbl u a b =>
    rw [show (["beside", "below"] : List Str).contains (wordT (.dbl u a b)) = true by cases u <;> rfl] at hd
    exact if_t hd ⟨hz, q⟩
  | thing w h =>
    rw [show (["beside", "below"] : List Str).contains (wordT (.thing w h)) = false from by rfl] at hd
    rw [show (!(["thing", "none"] : List Str).contains (wordT (.thing w h))) = false from by rfl] at hl
    exact if_f hd (hl _ ⟨Nat.zero_le _, q⟩)
  | nil =>
    rw [show (["beside", "below"] : List Str).contains (wordT .nil) = false from by rfl] at hd
    rw [show (!(["thing", "none"] : List Str).contains (wordT .nil)) = false from by rfl] at hl
    exact if_f hd (hl _ ⟨Nat.zero_le _, q⟩)
  | one o a =>
    rw [show (["beside", "below"] : List Str).contains (wordT (.one o a)) = false by cases o <;> rfl] at hd
    rw [show (!(["thing", "none"] : List Str).contains (wordT (.one o a))) = true by cases o <;> rfl] at hl
    exact if_f hd (hl _ ⟨Nat.le_trans (by decide) hz, q⟩)
end Qp
set_option maxHeartbeats 2000000
namespace Qp
open PySem PySem.Spec PyProof.Rows L2 Qd
theorem kid_at {t u : Tm} {k : Nat} (h : kidAt t k = some u) : ∃ ds, eT t = .tuple ds ∧ atI ds (k : Int) = some (eT u) := by
  unfold kidAt at h
  split at h
  · cases h
    exact ⟨_, rfl, rfl⟩
  · cases h
    exact ⟨_, rfl, rfl⟩
  · cases h
    exact ⟨_, rfl, atI_nat (.str _ :: eT u :: opA _) 1 (Nat.succ_lt_succ (Nat.zero_lt_succ _))⟩
  · cases h
theorem term_loop {E : WEnds} {d : PyData} {u : Tm} : ∀ {p : List Nat} {t : Tm} {b : Bd}, termAt t p = some u → (∀ b, E.nx [.val (eT u), .val d, b]) → wForL (wgName 2) (wSet 0 (wOp Qd.rIxD (wVar 0) (wVar 2))) (p.map nt) E [.val (eT t), .val d, b]
  | [], t, b, e, q => by
    cases e
    exact q b
  | k :: p, t, b, e, q => by
    obtain ⟨v, e1, e2⟩ := Option.bind_eq_some_iff.mp (show (kidAt t k).bind (fun v => termAt v p) = some u from e)
    obtain ⟨ds, e3, e4⟩ := kid_at e1
    show wSet 0 (wOp Qd.rIxD (wVar 0) (wVar 2)) { E with nx := wForL _ _ (p.map nt) E, ct := wForL _ _ (p.map nt) E, bk := E.nx } [.val (eT t), .val d, .val (nt k)]
    rw [e3]
    exact ⟨_, e4, term_loop e2 q⟩
theorem rd_term_at : ∀ bs Q, sp_term_at bs Q → w_term_at { nx := fun _ => Q .none, rt := Q } (bs ++ List.replicate (N_term_at.length - bs.length) .no) := by
  rintro bs Q ⟨t, p, u, rfl, e, q⟩
  exact term_loop e fun b => q
end Qp
set_option maxHeartbeats 2000000
namespace Qp
open PySem PySem.Spec PyProof.Rows L2 Qd
theorem seq_f {t : WT} {w rest : WS} {E : WEnds} {ρ : En} (h : Tst t ρ false) (k : rest E ρ) : wSeq (wIfS t w wNext) rest E ρ := h _ (by rw [if_neg (by simp)]; exact k)
theorem seq_t {t : WT} {w rest : WS} {E : WEnds} {ρ : En} (h : Tst t ρ true) (k : w { E with nx := fun ρ => rest E ρ } ρ) : wSeq (wIfS t w wNext) rest E ρ := h _ (by rw [if_pos rfl]; exact k)
theorem seq_set {i : Nat} {we : WE} {rest : WS} {E : WEnds} {ρ : En} {d : PyData} (h : Val we ρ d) (k : rest E (ρ.set i (.val d))) : wSeq (wSet i we) rest E ρ := h _ k
theorem rd_is_own_form : ∀ bs Q, sp_is_own_form bs Q → w_is_own_form { nx := fun _ => Q .none, rt := Q } (bs ++ List.replicate (N_is_own_form.length - bs.length) .no) := by
  rintro bs Q ⟨t, rfl, ho, q⟩
  rw [eT_eq]
  refine seq_set (d := .str (wordT t)) (fun Q q => ⟨_, atI_nat (.str (wordT t) :: tailT t) 0 (Nat.zero_lt_succ _), q⟩) ?_
  cases t with
  | thing w h =>
    refine seq_t (fun Q q => q) ⟨rfl, (w, h), ho, rfl, q⟩
  | nil =>
    refine seq_f (fun Q q => q) (seq_f (fun Q q => q) (seq_f (fun Q q => q) (seq_f (fun Q q => q) (seq_f (fun Q q => q) ?_))))
    exact q
  | dbl u a b =>
    cases u <;> exact seq_f (fun Q q => q) (seq_f (fun Q q => q) (seq_f (fun Q q => q) (seq_f (fun Q q => q) (seq_f (fun Q q => q) q))))
  | one o a =>
    cases o with
    | row k =>
      refine seq_f (fun Q q => q) (seq_t (fun Q q => q) ⟨_, rfl, rfl, (k : Int), 1, 10, rfl, ?_⟩)
      obtain ⟨h1, h2⟩ := ho
      rw [decide_eq_true (by omega), decide_eq_true (by omega)]
      exact q
    | turned => exact seq_f (fun Q q => q) (seq_f (fun Q q => q) (seq_f (fun Q q => q) (seq_f (fun Q q => q) (seq_f (fun Q q => q) q))))
    | moved d =>
      refine seq_f (fun Q q => q) (seq_f (fun Q q => q) (seq_t (fun Q q => q) ⟨_, rfl, trivial, rfl, d, 0 - 2000, 2000, rfl, ?_⟩))
      obtain ⟨h1, h2⟩ := ho
      rw [decide_eq_true (by omega), decide_eq_true (by omega)]
      exact q
    | times k =>
      refine seq_f (fun Q q => q) (seq_f (fun Q q => q) (seq_f (fun Q q => q) (seq_t (fun Q q => q) ⟨_, rfl, rfl, (k : Int), 1, 1000, rfl, ?_⟩)))
      obtain ⟨h1, h2⟩ := ho
      rw [decide_eq_true (by omega), decide_eq_true (by omega)]
      exact q
    | tied i j =>
      obtain ⟨h1, h2, h3⟩ := ho
      refine seq_f (fun Q q => q) (seq_f (fun Q q => q) (seq_f (fun Q q => q) (seq_f (fun Q q => q) (seq_t (fun Q q => q) (andV_t (fun Q q => ⟨_, rfl, rfl, i, rfl, h1, q⟩) (andV_t (fun Q q => ⟨_, rfl, rfl, j, rfl, h2, q⟩) ⟨_, rfl, _, rfl, trivial, ?_⟩))))))
      show Q (.bool (!decide ((i : Int) = (j : Int))))
      rw [decide_eq_false (by omega)]
      exact q
    | only l =>
      refine seq_f (fun Q q => q) (seq_f (fun Q q => q) (seq_f (fun Q q => q) (seq_f (fun Q q => q) (seq_f (fun Q q => q) ?_))))
      exact ⟨_, rfl, rfl, l, rfl, ho.1, ho.2, q⟩
end Qp
set_option maxHeartbeats 2000000
namespace Qp
open PySem PySem.Spec PyProof.Rows L2 Qd
/-! ### the shape of terms and fields -/
theorem lay_cons (x : PyData) (xs : List PyData) : PyData.canLayAll0 (x :: xs) = (x.canLay0 && PyData.canLayAll0 xs) := by
  conv => lhs; unfold PyData.canLayAll0
theorem lay_nil : PyData.canLayAll0 [] = true := by unfold PyData.canLayAll0; rfl
theorem lay_tup (xs : List PyData) : PyData.canLay0 (.tuple xs) = PyData.canLayAll0 xs := by conv => lhs; unfold PyData.canLay0
theorem lay_lst (xs : List PyData) : PyData.canLay0 (.list xs) = PyData.canLayAll0 xs := by conv => lhs; unfold PyData.canLay0
theorem lay_int (i : Int) : PyData.canLay0 (.int i) = true := by unfold PyData.canLay0; rfl
theorem lay_map {α : Type} {f : α → PyData} (h : ∀ x, (f x).canLay0 = true) : ∀ xs : List α, PyData.canLayAll0 (xs.map f) = true
  | [] => lay_nil
  | x :: xs => by rw [List.map_cons, lay_cons, h, lay_map h xs]; rfl
theorem dep_cons (x : PyData) (xs : List PyData) : PyData.depthAll (x :: xs) = max x.depth (PyData.depthAll xs) := by conv => lhs; unfold PyData.depthAll
theorem dep_nil : PyData.depthAll [] = 0 := by unfold PyData.depthAll; rfl
theorem dep_tup (xs : List PyData) : PyData.depth (.tuple xs) = PyData.depthAll xs + 1 := by conv => lhs; unfold PyData.depth
theorem dep_lst (xs : List PyData) : PyData.depth (.list xs) = PyData.depthAll xs + 1 := by conv => lhs; unfold PyData.depth
theorem dep_int (i : Int) : PyData.depth (.int i) = 0 := by unfold PyData.depth; rfl
theorem dep_str (x : Str) : PyData.depth (.str x) = 0 := by unfold PyData.depth; rfl
theorem dep_map {α : Type} {f : α → PyData} {k : Nat} (h : ∀ x, (f x).depth ≤ k) : ∀ xs : List α, PyData.depthAll (xs.map f) ≤ k
  | [] => by rw [List.map_nil, dep_nil]; omega
  | x :: xs => by
    rw [List.map_cons, dep_cons]
    have := h x
    have := dep_map h xs
    omega
theorem lay_str (x : Str) : PyData.canLay0 (.str x) = PyData.strOk x := by conv => lhs; unfold PyData.canLay0
theorem lay_nts (l : List Nat) : PyData.canLay0 (nts l) = true := by
  rw [lay_tup]
  exact lay_map (fun i => lay_int _) l
theorem dep_nts (l : List Nat) : PyData.depth (nts l) ≤ 1 := by
  rw [dep_tup]
  have := dep_map (k := 0) (f := fun i : Nat => PyData.int (i : Int)) (fun i => by rw [dep_int]; exact Nat.le_refl _) l
  omega
theorem lay_opA (o : Op) : PyData.canLayAll0 (opA o) = true := by
  cases o with
  | row k => show PyData.canLayAll0 [_] = true; rw [lay_cons, lay_int, lay_nil]; rfl
  | turned => exact lay_nil
  | moved d => show PyData.canLayAll0 [_] = true; rw [lay_cons, lay_int, lay_nil]; rfl
  | times k => show PyData.canLayAll0 [_] = true; rw [lay_cons, lay_int, lay_nil]; rfl
  | tied i j => show PyData.canLayAll0 [_, _] = true; rw [lay_cons, lay_int, lay_cons, lay_int, lay_nil]; rfl
  | only l => show PyData.canLayAll0 [_] = true; rw [lay_cons, lay_nts, lay_nil]; rfl
theorem dep_opA (o : Op) : PyData.depthAll (opA o) ≤ 1 := by
  cases o with
  | row k => show PyData.depthAll [_] ≤ 1; rw [dep_cons, dep_int, dep_nil]; decide
  | turned => show PyData.depthAll [] ≤ 1; rw [dep_nil]; decide
  | moved d => show PyData.depthAll [_] ≤ 1; rw [dep_cons, dep_int, dep_nil]; decide
  | times k => show PyData.depthAll [_] ≤ 1; rw [dep_cons, dep_int, dep_nil]; decide
  | tied i j => show PyData.depthAll [_, _] ≤ 1; rw [dep_cons, dep_int, dep_cons, dep_int, dep_nil]; decide
  | only l =>
    show PyData.depthAll [_] ≤ 1
    rw [dep_cons, dep_nil]
    have := dep_nts l
    omega
theorem str_ok (o : Op) : PyData.strOk (opS o) = true := by
  have h : ∀ z ∈ ([("row" : Str), "turned", "moved", "times", "tied", "only"] : List Str), PyData.strOk z = true := by decide +kernel
  refine h _ ?_
  cases o with
  | row k => exact List.mem_cons_self
  | turned => exact .tail _ List.mem_cons_self
  | moved d => exact .tail _ (.tail _ List.mem_cons_self)
  | times k => exact .tail _ (.tail _ (.tail _ List.mem_cons_self))
  | tied i j => exact .tail _ (.tail _ (.tail _ (.tail _ List.mem_cons_self)))
  | only l => exact .tail _ (.tail _ (.tail _ (.tail _ (.tail _ List.mem_cons_self))))
theorem lay_eT : ∀ t : Tm, PyData.canLay0 (eT t) = true
  | .thing w h => by
    show PyData.canLay0 (.tuple _) = true
    rw [lay_tup, lay_cons, lay_cons, lay_cons, lay_int, lay_int, lay_nil, lay_str]
    decide +kernel
  | .nil => by
    show PyData.canLay0 (.tuple _) = true
    rw [lay_tup, lay_cons, lay_nil, lay_str]
    decide +kernel
  | .dbl u a b => by
    show PyData.canLay0 (.tuple _) = true
    rw [lay_tup, lay_cons, lay_cons, lay_cons, lay_eT a, lay_eT b, lay_nil, lay_str]
    cases u <;> decide +kernel
  | .one o a => by
    show PyData.canLay0 (.tuple _) = true
    rw [lay_tup, lay_cons, lay_cons, lay_eT a, lay_opA, lay_str, str_ok]
    rfl
theorem dep_eT : ∀ t : Tm, PyData.depth (eT t) ≤ high t + 1
  | .thing w h => by
    show PyData.depth (.tuple _) ≤ 1 + 1
    rw [dep_tup, dep_cons, dep_cons, dep_cons, dep_int, dep_int, dep_nil, dep_str]
    decide
  | .nil => by
    show PyData.depth (.tuple _) ≤ 1 + 1
    rw [dep_tup, dep_cons, dep_nil, dep_str]
    decide
  | .dbl u a b => by
    show PyData.depth (.tuple _) ≤ 1 + max (high a) (high b) + 1
    rw [dep_tup, dep_cons, dep_cons, dep_cons, dep_nil, dep_str]
    have := dep_eT a
    have := dep_eT b
    omega
  | .one o a => by
    show PyData.depth (.tuple _) ≤ 1 + high a + 1
    rw [dep_tup, dep_cons, dep_cons, dep_str]
    have := dep_eT a
    have := dep_opA o
    omega
theorem shaped_eT {t : Tm} (h : high t ≤ 60) : SeqAt.shaped (eT t) = true := by
  unfold SeqAt.shaped
  rw [lay_eT, Bool.true_and]
  have := dep_eT t
  exact decide_eq_true (by omega)
end Qp
set_option maxHeartbeats 2000000
namespace Qp
open PySem PySem.Spec PyProof.Rows L2 Qd
theorem lens_eq (t : Tm) : lensD (wordT t) = some (((.str (wordT t) :: tailT t : List PyData).length : Nat) : Int) := by
  cases t with
  | thing w h => rfl
  | nil => rfl
  | dbl u a b => cases u <;> rfl
  | one o a => cases o <;> rfl
theorem rd_is_form : ∀ bs Q, sp_is_form bs Q → w_is_form { nx := fun _ => Q .none, rt := Q } (bs ++ List.replicate (N_is_form.length - bs.length) .no) := by
  rintro bs Q ⟨t, rfl, ho, hh, q⟩
  have hs := shaped_eT hh
  have hz : SeqAt.shaped (.tuple []) = true := by
    unfold SeqAt.shaped
    rw [lay_tup, lay_nil, dep_tup, dep_nil]
    rfl
  have h0 : Val (wOp Qd.rIxD (wVar 0) (wC (.int 0))) [Bd.val (eT t)] (.str (wordT t)) := fun Q q => by
    rw [eT_eq]
    exact ⟨_, atI_nat (.str (wordT t) :: tailT t) 0 (Nat.zero_lt_succ _), q⟩
  have he : PyData.eqv (eT t) (.tuple []) = false := by
    rw [eT_eq]
    simp [PyData.eqv, PyData.eqvAll]
  refine seq_f (or_f (not_s fun Q q => by rw [eT_eq]; exact q) (or_f (fun Q q => ⟨Nat.zero_le _, ⟨hs, hz⟩, by rw [he]; exact q⟩) (not_s fun Q q => h0 _ q))) ?_
  refine andV_t (fun Q q => ?_) ⟨rfl, t, rfl, ho, q⟩
  refine h0 _ ?_
  show (match lensD (wordT t) with
    | some i => wCallB rLen (wCons (wVar 0) wNil) [Bd.val (eT t)] fun y => rEqI (.int i) y Q
    | none => False)
  rw [lens_eq, eT_eq]
  refine ⟨trivial, ?_⟩
  show Q (.bool (decide _))
  rw [decide_eq_true rfl]
  exact q
end Qp
set_option maxHeartbeats 2000000
namespace Qp
open PySem PySem.Spec PyProof.Rows L2 Qd
theorem shaped_nl : SeqAt.shaped (.list []) = true := by
  unfold SeqAt.shaped
  rw [lay_lst, lay_nil, dep_lst, dep_nil]
  rfl
theorem eqv_nil {xs : List PyData} (h : xs ≠ []) : PyData.eqv (.list xs) (.list []) = false := by
  cases xs with
  | nil => exact absurd rfl h
  | cons _ _ => simp [PyData.eqv, PyData.eqvAll]
theorem eqv_nn : PyData.eqv (.list []) (.list []) = true := by simp [PyData.eqv, PyData.eqvAll]
theorem while_ne {i : Nat} {tb : WS} {E : WEnds} {ρ : En} (I : Nat → En → Prop) {m : Nat} (h0 : I m ρ)
    (h : ∀ m ρ, I m ρ → ∃ ds, ρ.getD i .no = .lst ds ∧ SeqAt.shaped (.list ds) = true ∧ (ds = [] → E.nx ρ) ∧ (ds ≠ [] → tb { E with nx := fun ρ' => ∃ m', m' < m ∧ I m' ρ', ct := fun ρ' => ∃ m', m' < m ∧ I m' ρ', bk := E.nx } ρ)) :
    wWhile (wTst (wOp rNeD (wPk i) (wFz (wLst wNil)))) tb E ρ := by
  refine ⟨I, ⟨m, h0⟩, fun m ρ r => ?_⟩
  obtain ⟨ds, e, sh, h1, h2⟩ := h m ρ r
  show wPk i ρ fun x => (0 ≤ sizeLine ∧ rNeD x (.list []) fun d => _)
  unfold wPk
  rw [e]
  refine ⟨Nat.zero_le _, ⟨sh, shaped_nl⟩, ?_⟩
  by_cases z : ds = []
  · rw [z, eqv_nn]
    exact h1 z
  · rw [eqv_nil z]
    exact h2 z
theorem seq_i {w w2 : WS} {E : WEnds} {ρ : En} (h : w { E with nx := w2 E } ρ) : wSeq w w2 E ρ := h
theorem pop_1 {i a : Nat} {E : WEnds} {ρ : En} {xs : List PyData} {x : PyData} (h : ρ.getD i .no = .lst (xs ++ [x])) (k : E.nx ((ρ.set i (.lst xs)).set a (.val x))) : wPop i (wgName a) E ρ := by
  unfold wPop
  rw [h]
  exact ⟨x, xs, rfl, k⟩
theorem pop_2 {i a b : Nat} {E : WEnds} {ρ : En} {xs : List PyData} {x y : PyData} (h : ρ.getD i .no = .lst (xs ++ [.tuple [x, y]])) (k : E.nx (((ρ.set i (.lst xs)).set a (.val x)).set b (.val y))) : wPop i (wgTup 2 (wgCons (wgName a) (wgCons (wgName b) wgNil))) E ρ := by
  unfold wPop
  rw [h]
  exact ⟨_, xs, rfl, rfl, k⟩
theorem app_v {i : Nat} {we : WE} {E : WEnds} {ρ : En} {ds : List PyData} {d : PyData} (h : ρ.getD i .no = .lst ds) (hv : Val we ρ d) (hl : ds.length < 1000) (k : E.nx (ρ.set i (.lst (ds ++ [d])))) : wApp i we E ρ := by
  unfold wApp
  rw [h]
  exact hv _ ⟨by rw [sizeLine_eq]; omega, k⟩
theorem ext_v {i : Nat} {wl : WP} {E : WEnds} {ρ : En} {ds es : List PyData} (h : ρ.getD i .no = .lst ds) (hv : ValP wl ρ es) (hl : ds.length + es.length ≤ 1000) (k : E.nx (ρ.set i (.lst (ds ++ es)))) : wExt i wl E ρ := by
  unfold wExt
  rw [h]
  exact hv _ ⟨by rw [sizeLine_eq]; omega, k⟩
theorem for_v {wl : WP} {g : WG} {tb : WS} {E : WEnds} {ρ : En} {ds : List PyData} (h : ValP wl ρ ds) (k : wForL g tb ds E ρ) : wFor wl g tb E ρ := h _ k
theorem seqI_v {we : WE} {ρ : En} {d : PyData} {ds : List PyData} (hi : itemsD d = some ds) (h : Val we ρ d) : ValP (wSeqI we) ρ ds := fun Q q => h _ (by
  show (match itemsD d with
    | some ds => Q ds
    | none => False)
  rw [hi]
  exact q)
theorem seq_pop1 {i a : Nat} {rest : WS} {E : WEnds} {ρ : En} {xs : List PyData} {x : PyData} (h : ρ.getD i .no = .lst (xs ++ [x])) (k : rest E ((ρ.set i (.lst xs)).set a (.val x))) : wSeq (wPop i (wgName a)) rest E ρ := pop_1 h k
theorem seq_pop2 {i a b : Nat} {rest : WS} {E : WEnds} {ρ : En} {xs : List PyData} {x y : PyData} (h : ρ.getD i .no = .lst (xs ++ [.tuple [x, y]])) (k : rest E (((ρ.set i (.lst xs)).set a (.val x)).set b (.val y))) : wSeq (wPop i (wgTup 2 (wgCons (wgName a) (wgCons (wgName b) wgNil)))) rest E ρ := pop_2 h k
theorem seq_app {i : Nat} {we : WE} {rest : WS} {E : WEnds} {ρ : En} {ds : List PyData} {d : PyData} (h : ρ.getD i .no = .lst ds) (hv : Val we ρ d) (hl : ds.length < 1000) (k : rest E (ρ.set i (.lst (ds ++ [d])))) : wSeq (wApp i we) rest E ρ := app_v h hv hl k
theorem seq_for {wl : WP} {g : WG} {tb rest : WS} {E : WEnds} {ρ : En} {ds : List PyData} (h : ValP wl ρ ds) (k : wForL g tb ds { E with nx := rest E } ρ) : wSeq (wFor wl g tb) rest E ρ := h _ k
theorem seq_setO {i : Nat} {wl : WP} {rest : WS} {E : WEnds} {ρ : En} {ds : List PyData} (h : ValP wl ρ ds) (k : rest E (ρ.set i (.lst ds))) : wSeq (wSetO i wl) rest E ρ := h _ k
theorem lst_v {w : WP} {ρ : En} {ds : List PyData} (h : ValP w ρ ds) (hl : ds.length ≤ 1000) : ValP (wLst w) ρ ds := fun Q q => h _ ⟨by rw [sizeLine_eq]; omega, q⟩
theorem tup_v {w : WP} {ρ : En} {ds : List PyData} (h : ValP w ρ ds) (hl : ds.length ≤ 1000) : Val (wTup w) ρ (.tuple ds) := fun Q q => h _ ⟨by rw [sizeLine_eq]; omega, q⟩
def eW (x : List Nat × Tm) : PyData := .tuple [nts x.1, eT x.2]
def kidsP (p : List Nat) : Tm → List (List Nat × Tm)
  | .thing _ _ => []
  | .nil => []
  | .dbl _ a b => [(p ++ [1], a), (p ++ [2], b)]
  | .one _ a => [(p ++ [1], a)]
def pathsW (st : List (List Nat × Tm)) : List (List Nat) := st.flatMap fun x => (pathsL x.2).map (x.1 ++ ·)
def wordsW (st : List (List Nat × Tm)) : Nat := (st.map fun x => words x.2).sum
theorem map_pre (p : List Nat) (k : Nat) (l : List (List Nat)) : (l.map (k :: ·)).map (p ++ ·) = l.map ((p ++ [k]) ++ ·) := by
  rw [List.map_map]
  refine List.map_congr_left fun x _ => ?_
  show p ++ (k :: x) = p ++ [k] ++ x
  rw [List.append_assoc]
  rfl
theorem kids_paths (p : List Nat) (u : Tm) : (pathsL u).map (p ++ ·) = p :: pathsW (kidsP p u) := by
  cases u with
  | thing w h => show [p ++ []] = [p]; rw [List.append_nil]
  | nil => show [p ++ []] = [p]; rw [List.append_nil]
  | dbl u a b =>
    show (p ++ []) :: ((pathsL a).map (1 :: ·) ++ (pathsL b).map (2 :: ·)).map (p ++ ·) = p :: ((pathsL a).map ((p ++ [1]) ++ ·) ++ ((pathsL b).map ((p ++ [2]) ++ ·) ++ []))
    rw [List.map_append, map_pre, map_pre, List.append_nil, List.append_nil]
  | one o a =>
    show (p ++ []) :: ((pathsL a).map (1 :: ·)).map (p ++ ·) = p :: ((pathsL a).map ((p ++ [1]) ++ ·) ++ [])
    rw [map_pre, List.append_nil, List.append_nil]
theorem kids_words (p : List Nat) (u : Tm) : words u = 1 + wordsW (kidsP p u) := by
  unfold wordsW kidsP
  cases u with
  | thing w h => rfl
  | nil => rfl
  | dbl u a b => simp [words]; omega
  | one o a => simp [words]
theorem paths_len : ∀ t : Tm, (pathsL t).length = words t
  | .thing _ _ => rfl
  | .nil => rfl
  | .dbl _ a b => by simp [pathsL, words, paths_len a, paths_len b]; omega
  | .one _ a => by simp [pathsL, words, paths_len a]; omega
theorem words_pos : ∀ t : Tm, 1 ≤ words t
  | .thing _ _ => Nat.le_refl _
  | .nil => Nat.le_refl _
  | .dbl _ a b => by simp only [words]; omega
  | .one _ a => by simp only [words]; omega
theorem high_pos : ∀ t : Tm, 1 ≤ high t
  | .thing _ _ => Nat.le_refl _
  | .nil => Nat.le_refl _
  | .dbl _ a b => by simp only [high]; omega
  | .one _ a => by simp only [high]; omega
theorem form_own {t : Tm} (h : form t) : own1 t := by
  cases t with
  | thing _ _ => exact h
  | nil => trivial
  | dbl _ _ _ => trivial
  | one _ _ => exact h.1
theorem pathsW_len (st : List (List Nat × Tm)) : (pathsW st).length = wordsW st := by
  unfold pathsW wordsW
  rw [List.length_flatMap]
  congr 1
  refine List.map_congr_left fun x _ => ?_
  rw [List.length_map, paths_len]
theorem st_len : ∀ st : List (List Nat × Tm), st.length ≤ wordsW st
  | [] => Nat.le_refl _
  | x :: st => by
    have := words_pos x.2
    have := st_len st
    show st.length + 1 ≤ words x.2 + wordsW st
    omega
theorem push {E : WEnds} {T : PyData} {fo wa ds : List PyData} {p : List Nat} {k : Nat} {x : PyData} (hp : p.length ≤ 100) (hw : wa.length ≤ 1000) (hx : atI ds (k : Int) = some x)
    (q : E.nx [.val T, .lst fo, .lst (wa ++ [.tuple [nts (p ++ [k]), x]]), .val (nts p), .val (.tuple ds), .val (nt k)]) :
    wApp 2 (wTup (wCons (wTup (wStar (wVar 3) (wCons (wVar 5) wNil))) (wCons (wOp Qd.rIxD (wVar 4) (wVar 5)) wNil))) E [.val T, .lst fo, .lst wa, .val (nts p), .val (.tuple ds), .val (nt k)] := by
  have hz := sizeLine_eq
  rw [show nts (p ++ [k]) = .tuple ((p.map fun (i : Nat) => PyData.int (i : Int)) ++ [nt k]) by rw [nts, List.map_append]; rfl] at q
  refine ⟨?_, _, hx, ?_, ?_, q⟩
  · rw [List.length_append, List.length_map, List.length_singleton]
    omega
  · show 2 ≤ sizeLine
    omega
  · omega
theorem push_for {E : WEnds} {T : PyData} {fo wa ds ks : List PyData} {p : List Nat} {k : Nat} {x : PyData} {c : Bd} (hp : p.length ≤ 100) (hw : wa.length ≤ 1000) (hx : atI ds (k : Int) = some x)
    (q : wForL (wgName 5) (wApp 2 (wTup (wCons (wTup (wStar (wVar 3) (wCons (wVar 5) wNil))) (wCons (wOp Qd.rIxD (wVar 4) (wVar 5)) wNil)))) ks E [.val T, .lst fo, .lst (wa ++ [.tuple [nts (p ++ [k]), x]]), .val (nts p), .val (.tuple ds), .val (nt k)]) :
    wForL (wgName 5) (wApp 2 (wTup (wCons (wTup (wStar (wVar 3) (wCons (wVar 5) wNil))) (wCons (wOp Qd.rIxD (wVar 4) (wVar 5)) wNil)))) (nt k :: ks) E [.val T, .lst fo, .lst wa, .val (nts p), .val (.tuple ds), c] :=
  push (E := { E with nx := wForL (wgName 5) _ ks E, ct := wForL (wgName 5) _ ks E, bk := E.nx }) hp hw hx q
def PI (t : Tm) (m : Nat) (ρ : En) : Prop := ∃ (fo : List (List Nat)) (st : List (List Nat × Tm)) (a b c : Bd), ρ = [.val (eT t), .lst (fo.map nts), .lst (st.reverse.map eW), a, b, c] ∧ m = wordsW st ∧ fo ++ pathsW st = pathsL t ∧ ∀ x ∈ st, form x.2 ∧ x.1.length + high x.2 ≤ 8
theorem dep_eW (x : List Nat × Tm) (k : Nat) (h : high x.2 ≤ k) : (eW x).depth ≤ k + 2 := by
  show PyData.depth (.tuple _) ≤ _
  rw [dep_tup, dep_cons, dep_cons, dep_nil]
  have := dep_eT x.2
  have := dep_nts x.1
  omega
theorem dep_all {xs : List PyData} {k : Nat} (h : ∀ x ∈ xs, x.depth ≤ k) : PyData.depthAll xs ≤ k := by
  induction xs with
  | nil => rw [dep_nil]; omega
  | cons x xs ih =>
    rw [dep_cons]
    have := h x List.mem_cons_self
    have := ih fun y hy => h y (List.mem_cons_of_mem _ hy)
    omega
theorem shaped_st {st : List (List Nat × Tm)} (h : ∀ x ∈ st, form x.2 ∧ x.1.length + high x.2 ≤ 8) : SeqAt.shaped (.list (st.reverse.map eW)) = true := by
  unfold SeqAt.shaped
  rw [lay_lst, lay_map, Bool.true_and]
  · rw [dep_lst]
    have : PyData.depthAll (st.reverse.map eW) ≤ 10 := dep_all fun x hx => by
      obtain ⟨y, hy, rfl⟩ := List.mem_map.mp hx
      have := (h y (List.mem_reverse.mp hy)).2
      exact dep_eW y 8 (by omega)
    exact decide_eq_true (by omega)
  · intro x
    show PyData.canLay0 (.tuple _) = true
    rw [lay_tup, lay_cons, lay_cons, lay_nil, lay_nts, lay_eT]
    rfl
theorem rd_paths_in : ∀ bs Q, sp_paths_in bs Q → w_paths_in { nx := fun _ => Q .none, rt := Q } (bs ++ List.replicate (N_paths_in.length - bs.length) .no) := by
  rintro bs Q ⟨t, rfl, hf, hw, hh, q⟩
  have hz := sizeLine_eq
  refine ⟨Nat.zero_le _, Nat.zero_le _, ?_, ?_, ?_⟩
  · show 2 ≤ sizeLine
    omega
  · show 1 ≤ sizeLine
    omega
  refine seq_i (while_ne (PI t) (m := _) ⟨[], [([], t)], _, _, _, rfl, rfl, ?_, ?_⟩ ?_)
  · show [] ++ ((pathsL t).map ([] ++ ·) ++ []) = _
    simp
  · intro x hx
    cases List.mem_singleton.mp hx
    exact ⟨hf, by show 0 + high t ≤ 8; omega⟩
  rintro m ρ ⟨fo, st, a, b, c, rfl, rfl, hp, hs⟩
  have hlen : fo.length + wordsW st = words t := by
    rw [← paths_len, ← hp, List.length_append, pathsW_len]
  refine ⟨st.reverse.map eW, rfl, shaped_st hs, fun z => ?_, fun z => ?_⟩
  · have z' : st = [] := by simpa using z
    subst z'
    have : fo = pathsL t := by
      rw [← hp]
      simp [pathsW]
    rw [this]
    exact q
  cases st with
  | nil => exact absurd rfl z
  | cons x st =>
    obtain ⟨p, u⟩ := x
    obtain ⟨hfu, hpu⟩ := hs _ List.mem_cons_self
    replace hpu : p.length + high u ≤ 8 := hpu
    have h1 := high_pos u
    have h2 := words_pos u
    have e1 : wordsW ((p, u) :: st) = words u + wordsW st := rfl
    have e2 := kids_words p u
    refine seq_pop2 (xs := st.reverse.map eW) (x := nts p) (y := eT u) ?_ ?_
    · rw [List.reverse_cons, List.map_append]
      rfl
    refine seq_f (or_f (fun Q q => ⟨trivial, ?_⟩) (fun Q q => ⟨trivial, ?_⟩)) ?_
    · show Q (decide (((fo.map nts).length : Int) = 20))
      rw [List.length_map, decide_eq_false (by omega)]
      exact q
    · show Q (decide ((8 : Int) ≤ ((p.map fun (i : Nat) => PyData.int (i : Int)).length : Int)))
      rw [List.length_map, decide_eq_false (by omega)]
      exact q
    refine seq_f (not_s fun Q q => ⟨rfl, u, rfl, form_own hfu, by omega, q⟩) ?_
    have hfo : fo.map nts ++ [nts p] = (fo ++ [p]).map nts := by rw [List.map_append]; rfl
    have hst : (st.reverse.map eW).length ≤ 998 := by
      rw [List.length_map, List.length_reverse]
      have := st_len st
      omega
    have go : ∀ (ρ : En) (z : Bd), ρ = [.val (eT t), .lst ((fo ++ [p]).map nts), .lst ((kidsP p u ++ st).reverse.map eW), .val (nts p), .val (eT u), z] → ∃ m', m' < wordsW ((p, u) :: st) ∧ PI t m' ρ := fun ρ z e => by
      have hk : ∀ x ∈ kidsP p u, form x.2 ∧ x.1.length + high x.2 ≤ 8 := fun x hx => by
        cases u with
        | thing _ _ => nomatch hx
        | nil => nomatch hx
        | dbl v a b =>
          simp only [high] at hpu
          rcases List.mem_cons.mp hx with rfl | hx
          · exact ⟨hfu.1, by show (p ++ [1]).length + high a ≤ 8; rw [List.length_append, List.length_singleton]; omega⟩
          · rcases List.mem_cons.mp hx with rfl | hx
            · exact ⟨hfu.2, by show (p ++ [2]).length + high b ≤ 8; rw [List.length_append, List.length_singleton]; omega⟩
            · nomatch hx
        | one o a =>
          simp only [high] at hpu
          rcases List.mem_cons.mp hx with rfl | hx
          · exact ⟨hfu.2, by show (p ++ [1]).length + high a ≤ 8; rw [List.length_append, List.length_singleton]; omega⟩
          · nomatch hx
      have hwa : wordsW (kidsP p u ++ st) = wordsW (kidsP p u) + wordsW st := by
        unfold wordsW
        rw [List.map_append, List.sum_append]
      refine ⟨wordsW (kidsP p u ++ st), by omega, fo ++ [p], kidsP p u ++ st, _, _, _, e, rfl, ?_, ?_⟩
      · rw [← hp]
        show fo ++ [p] ++ (kidsP p u ++ st).flatMap _ = fo ++ ((pathsL u).map (p ++ ·) ++ pathsW st)
        rw [kids_paths, List.flatMap_append, List.append_assoc]
        rfl
      · intro x hx
        rcases List.mem_append.mp hx with hx | hx
        · exact hk x hx
        · exact hs x (List.mem_cons_of_mem _ hx)
    refine seq_app (ds := fo.map nts) (d := nts p) rfl (fun Q q => q) (by rw [List.length_map]; omega) ?_
    show wFor _ _ _ _ [.val (eT t), .lst (fo.map nts ++ [nts p]), .lst (st.reverse.map eW), .val (nts p), .val (eT u), c]
    rw [hfo]
    cases u with
    | thing w h =>
      refine for_v (ds := []) (seqI_v (d := .tuple []) rfl (fun Q q => ⟨rfl, .thing w h, rfl, q⟩)) ?_
      exact go _ c rfl
    | nil =>
      refine for_v (ds := []) (seqI_v (d := .tuple []) rfl (fun Q q => ⟨rfl, .nil, rfl, q⟩)) ?_
      exact go _ c rfl
    | one o a =>
      refine for_v (ds := [nt 1]) (seqI_v (d := .tuple [nt 1]) rfl (fun Q q => ⟨rfl, .one o a, rfl, q⟩)) ?_
      refine push_for (by omega) (by omega) (atI_nat (.str _ :: eT a :: opA _) 1 (Nat.succ_lt_succ (Nat.zero_lt_succ _))) (go _ (.val (nt 1)) ?_)
      show _ = [_, _, Bd.lst (List.map eW ((p ++ [1], a) :: st).reverse), _, _, _]
      rw [List.reverse_cons, List.map_append (f := eW)]
      rfl
    | dbl v a b =>
      refine for_v (ds := [nt 2, nt 1]) (seqI_v (d := .tuple [nt 2, nt 1]) rfl (fun Q q => ⟨rfl, .dbl v a b, rfl, q⟩)) ?_
      refine push_for (by omega) (by omega) (atI_nat [.str (if v then "below" else "beside"), eT a, eT b] 2 (Nat.lt_succ_self 2)) ?_
      refine push_for (by omega) (by rw [List.length_append, List.length_singleton]; omega) (atI_nat [.str (if v then "below" else "beside"), eT a, eT b] 1 (by show 1 < 3; decide)) (go _ (.val (nt 1)) ?_)
      show _ = [_, _, Bd.lst (List.map eW ((p ++ [1], a) :: (p ++ [2], b) :: st).reverse), _, _, _]
      rw [List.reverse_cons, List.reverse_cons, List.map_append (f := eW), List.map_append (f := eW)]
      rfl
end Qp
set_option maxHeartbeats 2000000
namespace Qp
open PySem PySem.Spec PyProof.Rows L2 Qd
/-! ### dicts by their keys -/
section
variable {α κ : Type} [DecidableEq α] [DecidableEq κ]
theorem valD_map (key : α → κ) (inj : ∀ a b, key a = key b → a = b) (f : α → PyData) (k : α) : ∀ ks : List α, valD (ks.map fun a => (key a, f a)) (key k) = if k ∈ ks then some (f k) else none
  | [] => rfl
  | a :: ks => by
    have ih := valD_map key inj f k ks
    unfold valD at ih ⊢
    rw [List.map_cons, List.find?_cons]
    by_cases e : a = k
    · subst e
      rw [decide_eq_true (by rfl), if_pos List.mem_cons_self]
      rfl
    · rw [decide_eq_false (fun z => e (inj _ _ z))]
      show Option.map _ _ = _
      rw [ih]
      by_cases h : k ∈ ks
      · rw [if_pos h, if_pos (List.mem_cons_of_mem _ h)]
      · rw [if_neg h, if_neg (fun z => (List.mem_cons.mp z).elim (fun z => e z.symm) h)]
theorem any_key (key : α → κ) (inj : ∀ a b, key a = key b → a = b) (f : α → PyData) (k : α) (ks : List α) : ((ks.map fun a => (key a, f a)).any fun kv => decide (kv.1 = key k)) = true ↔ k ∈ ks := by
  rw [List.any_eq_true]
  constructor
  · rintro ⟨x, hx, e⟩
    obtain ⟨a, ha, rfl⟩ := List.mem_map.mp hx
    rw [← inj _ _ (of_decide_eq_true e)]
    exact ha
  · intro h
    exact ⟨_, List.mem_map.mpr ⟨k, h, rfl⟩, decide_eq_true (by rfl)⟩
theorem putD_new (key : α → κ) (inj : ∀ a b, key a = key b → a = b) (f : α → PyData) (k : α) (v : PyData) (ks : List α) (h : k ∉ ks) : putD (ks.map fun a => (key a, f a)) (key k) v = ks.map (fun a => (key a, f a)) ++ [(key k, v)] := by
  unfold putD
  rw [if_neg (fun z => h ((any_key key inj f k ks).mp z))]
theorem putD_old (key : α → κ) (inj : ∀ a b, key a = key b → a = b) (f : α → PyData) (k : α) (ks : List α) (h : k ∈ ks) : putD (ks.map fun a => (key a, f a)) (key k) (f k) = ks.map (fun a => (key a, f a)) := by
  unfold putD
  rw [if_pos ((any_key key inj f k ks).mpr h), List.map_map]
  refine List.map_congr_left fun a _ => ?_
  show (if key a = key k then (key a, f k) else (key a, f a)) = (key a, f a)
  by_cases e : key a = key k
  · rw [if_pos e, inj _ _ e]
  · rw [if_neg e]
end
def keyN (k : Nat) : Key := .inl (k : Int)
theorem keyN_inj (a b : Nat) (h : keyN a = keyN b) : a = b := by
  have := Sum.inl.inj h
  omega
def dKN (f : Nat → PyData) (ks : List Nat) : Bd := .dK (ks.map fun k => (keyN k, f k))
theorem intsK_map (f : Nat → PyData) : ∀ ks : List Nat, intsK (ks.map fun k => (keyN k, f k)) = some (ks.map fun (k : Nat) => (k : Int))
  | [] => rfl
  | k :: ks => by
    show (intsK (ks.map fun k => (keyN k, f k))).map _ = _
    rw [intsK_map f ks]
    rfl
theorem sort_ints {ks U : List Nat} (hU : U.Pairwise (· < ·)) (hk : ks.Nodup) (h : ∀ i, i ∈ ks ↔ i ∈ U) {ys : List Int} (p : ys.Perm (ks.map fun (k : Nat) => (k : Int))) (s : ys.Pairwise (· ≤ ·)) : ys = U.map fun (k : Nat) => (k : Int) := by
  have hn : U.Nodup := hU.imp fun h z => by omega
  refine List.Perm.eq_of_pairwise (le := fun x y : Int => x ≤ y) (fun x y _ _ h1 h2 => by omega) s ?_ (p.trans (((List.perm_ext_iff_of_nodup hk hn).mpr h).map _))
  rw [List.pairwise_map]
  exact hU.imp fun h => by omega
/-! ### readings at known environments -/
theorem for_pre {α : Type} {g : WG} {tb : WS} (enc : α → PyData) (R : List α → En → Prop) {all : List α} {E : WEnds}
    (h : ∀ (pre : List α) (x : α) (post : List α) (ρ : En) (E' : WEnds), pre ++ x :: post = all → R pre ρ → E'.rt = E.rt → (∀ ρ', R (pre ++ [x]) ρ' → E'.nx ρ') → (∀ ρ', R (pre ++ [x]) ρ' → E'.ct ρ') → g (enc x) ρ fun ρ' => tb E' ρ')
    (q : ∀ ρ', R all ρ' → E.nx ρ') : ∀ {xs pre : List α} {ρ : En}, pre ++ xs = all → R pre ρ → wForL g tb (xs.map enc) E ρ
  | [], pre, ρ, e, r => q ρ (by rw [List.append_nil] at e; rw [← e]; exact r)
  | x :: xs, pre, ρ, e, r => by
    rw [List.map_cons]
    show g (enc x) ρ fun ρ' => tb { E with nx := wForL g tb (xs.map enc) E, ct := wForL g tb (xs.map enc) E, bk := E.nx } ρ'
    have go : ∀ ρ', R (pre ++ [x]) ρ' → wForL g tb (xs.map enc) E ρ' := fun ρ' r' => for_pre enc R h q (by rw [List.append_assoc]; exact e) r'
    exact h pre x xs ρ _ e r rfl go go
theorem g2_v {a b : Nat} {x y : PyData} {ρ : En} {K : En → Prop} (k : K ((ρ.set a (.val x)).set b (.val y))) : wgTup 2 (wgCons (wgName a) (wgCons (wgName b) wgNil)) (.tuple [x, y]) ρ K := ⟨rfl, k⟩
theorem sortD_v {i : Nat} {ρ : En} {f : Nat → PyData} {ks U : List Nat} (h : ρ.getD i .no = dKN f ks) (hU : U.Pairwise (· < ·)) (hk : ks.Nodup) (hl : ks.length < 64) (hm : ∀ i, i ∈ ks ↔ i ∈ U) : ValP (wSortD i) ρ (U.map nt) := fun Q q => by
  unfold wSortD
  rw [h]
  show (match intsK (ks.map fun k => (keyN k, f k)) with
    | some ns => ns.length < 64 ∧ ∀ ys : List Int, ys.Perm ns → ys.Pairwise (· ≤ ·) → Q (ys.map PyData.int)
    | none => False)
  rw [intsK_map]
  refine ⟨by rw [List.length_map]; exact hl, fun ys p s => ?_⟩
  rw [sort_ints hU hk hm p s, List.map_map]
  exact q
theorem dIn_N {neg : Bool} {i : Nat} {wy : WE} {ρ : En} {f : Nat → PyData} {ks : List Nat} {k : Nat} (h : ρ.getD i .no = dKN f ks) (hy : Val wy ρ (nt k)) : Val (wDIn neg i wy) ρ (.bool (if neg then !decide (k ∈ ks) else decide (k ∈ ks))) := fun Q q => hy _ (by
  show isDic (ρ.getD i .no) ∧ atDic (ρ.getD i .no) (nt k) fun o => Q (.bool (if neg then !o.isSome else o.isSome))
  rw [h]
  refine ⟨trivial, ?_⟩
  show Q (.bool (if neg then !(valD (ks.map fun k => (keyN k, f k)) (keyN k)).isSome else (valD (ks.map fun k => (keyN k, f k)) (keyN k)).isSome))
  rw [valD_map keyN keyN_inj]
  by_cases e : k ∈ ks
  · rw [decide_eq_true e] at q
    rw [if_pos e]
    exact q
  · rw [decide_eq_false e] at q
    rw [if_neg e]
    exact q)
theorem put_N {i : Nat} {wy wv : WE} {E : WEnds} {ρ : En} {f : Nat → PyData} {ks : List Nat} {k : Nat} (h : ρ.getD i .no = dKN f ks) (hv : Val wv ρ (f k)) (hy : Val wy ρ (nt k)) (hk : k ∉ ks) (hl : ks.length < 1000) (q : E.nx (ρ.set i (dKN f (ks ++ [k])))) : wDPut i wy wv E ρ := hv _ (by
  show isDic (ρ.getD i .no) ∧ wy ρ fun y => putDic (ρ.getD i .no) y (f k) fun b => E.nx (ρ.set i b)
  rw [h]
  refine ⟨trivial, hy _ ⟨by rw [List.length_map, sizeLine_eq]; omega, ?_⟩⟩
  show E.nx (ρ.set i (.dK (putD (ks.map fun k => (keyN k, f k)) (keyN k) (f k))))
  rw [putD_new keyN keyN_inj f k (f k) ks hk]
  unfold dKN at q
  rw [List.map_append] at q
  exact q)
theorem seq_putN {i : Nat} {wy wv : WE} {rest : WS} {E : WEnds} {ρ : En} {f : Nat → PyData} {ks : List Nat} {k : Nat} (h : ρ.getD i .no = dKN f ks) (hv : Val wv ρ (f k)) (hy : Val wy ρ (nt k)) (hk : k ∉ ks) (hl : ks.length < 1000) (q : rest E (ρ.set i (dKN f (ks ++ [k])))) : wSeq (wDPut i wy wv) rest E ρ := put_N h hv hy hk hl q
theorem shaped_nats (l : List Nat) : SeqAt.shaped (.list (l.map nt)) = true := by
  unfold SeqAt.shaped
  rw [lay_lst, lay_map (fun i => lay_int _), Bool.true_and, dep_lst]
  have := dep_map (k := 0) (f := nt) (fun i => by rw [dep_int]; exact Nat.le_refl _) l
  exact decide_eq_true (by omega)
/-! ### the walk to all ups -/
structure Wk (p : Rel) (n o : Nat) (ks ws : List Nat) : Prop where
  nd : ks.Nodup
  ok : ∀ k ∈ ks, k < n ∧ Pth p o k
  wo : ∀ w ∈ ws, w = o ∨ w ∈ ks
theorem nodup_len {n : Nat} {ks : List Nat} (nd : ks.Nodup) (h : ∀ k ∈ ks, k < n) : ks.length ≤ n := by
  have := List.Nodup.length_le_of_subset (l₁ := ks) (l₂ := List.range n) nd fun x hx => List.mem_range.mpr (h x hx)
  rw [List.length_range] at this
  exact this
def tru : Nat → PyData := fun _ => .bool true
def UI (n : Nat) (p : Rel) (D : PyData) (fo : List PyData) (o : Nat) (m : Nat) (ρ : En) : Prop := ∃ (ks ws : List Nat) (a b c : Bd), ρ = [.val (nt n), .val D, .lst fo, .val (nt o), dKN tru ks, .lst (ws.map nt), a, b, c] ∧
  m = 2 * (n - ks.length) + ws.length ∧ m ≤ 2 * n + 1 ∧ Wk p n o ks ws ∧ ∀ x, (x = o ∨ x ∈ ks) → x ∈ ws ∨ ∀ j, p x j = true → j ∈ ks
theorem walk_done {p : Rel} {n o : Nat} {ks : List Nat} (h : Wk p n o ks []) (hc : ∀ x, (x = o ∨ x ∈ ks) → x ∈ ([] : List Nat) ∨ ∀ j, p x j = true → j ∈ ks) (j : Nat) : j ∈ ks ↔ Pth p o j := by
  constructor
  · exact fun z => (h.ok j z).2
  · intro g
    have key : ∀ {x j : Nat}, Pth p x j → (x = o ∨ x ∈ ks) → j ∈ ks := fun {x j} g => by
      induction g with
      | one e => exact fun hx => ((hc _ hx).resolve_left (fun z => nomatch z)) _ e
      | cons e _ ih => exact fun hx => ih (.inr (((hc _ hx).resolve_left (fun z => nomatch z)) _ e))
    exact key g (.inl rfl)
/-- while one is walked -/
def VI (n : Nat) (p : Rel) (D : PyData) (fo : List PyData) (o here M : Nat) (pre : List (Nat × Nat)) (ρ : En) : Prop := ∃ (ks ws : List Nat) (b c : Bd), ρ = [.val (nt n), .val D, .lst fo, .val (nt o), dKN tru ks, .lst (ws.map nt), .val (nt here), b, c] ∧
  2 * (n - ks.length) + ws.length ≤ M ∧ Wk p n o ks ws ∧ (here = o ∨ here ∈ ks) ∧ (∀ x, x ≠ here → (x = o ∨ x ∈ ks) → x ∈ ws ∨ ∀ j, p x j = true → j ∈ ks) ∧ ∀ y ∈ pre, y.1 = here → y.2 ∈ ks
theorem rd_ups_by : ∀ bs Q, sp_ups_by bs Q → w_ups_by { nx := fun _ => Q .none, rt := Q } (bs ++ List.replicate (N_ups_by.length - bs.length) .no) := by
  rintro bs Q ⟨n, l, D, hn, hr, hl, hD, rfl, q⟩
  have hz := sizeLine_eq
  have hi : itemsD D = some (l.map npr) := by rcases hD with rfl | rfl <;> rfl
  have hrr : ∀ i j, memR l i j = true → i < n ∧ j < n := fun i j e => hr _ (memR_iff.mp e)
  refine ⟨Nat.zero_le _, ?_⟩
  refine ⟨⟨by omega, by omega⟩, ?_⟩
  rw [show (n : Int).toNat = n from rfl, rng_map]
  let ans : Nat → PyData := fun i => .list (((List.range n).filter (clo n (memR l) i)).map nt)
  refine for_pre (all := List.range n) (fun (i : Nat) => PyData.int (i : Int)) (fun pre ρ => ∃ b1 b2 b3 b4 b5 b6, ρ = [.val (nt n), .val D, .lst (pre.map ans), b1, b2, b3, b4, b5, b6]) ?_ ?_ (pre := []) rfl ⟨_, _, _, _, _, _, rfl⟩
  · rintro pre o post ρ E' he ⟨b1, b2, b3, b4, b5, b6, rfl⟩ hrt hnx -
    have hpl : pre.length < n := by
      have := congrArg List.length he
      rw [List.length_append, List.length_cons, List.length_range] at this
      omega
    refine ⟨(by show 1 ≤ sizeLine; omega), ?_⟩
    refine seq_i (while_ne (UI n (memR l) D (pre.map ans) o) (m := _) ⟨[], [o], _, _, _, rfl, rfl, (by show 2 * (n - 0) + 1 ≤ 2 * n + 1; omega), ⟨List.nodup_nil, fun k h => (nomatch h), fun w h => .inl (List.mem_singleton.mp h)⟩, fun x hx => .inl ?_⟩ ?_)
    · rcases hx with rfl | hx
      · exact List.mem_singleton.mpr rfl
      · nomatch hx
    rintro m ρ ⟨ks, ws, a, b, c, rfl, rfl, hm2, wk, hc⟩
    have hkl := nodup_len wk.nd fun k h => (wk.ok k h).1
    refine ⟨ws.map nt, rfl, shaped_nats ws, fun z => ?_, fun z => ?_⟩
    · have z' : ws = [] := by simpa using z
      subst z'
      show wApp 2 (wFz (wSortD 4)) E' [.val (nt n), .val D, .lst (pre.map ans), .val (nt o), dKN tru ks, .lst [], a, b, c]
      have hm := walk_done wk hc
      refine app_v (ds := pre.map ans) (d := ans o) rfl (val_fz (sortD_v (ks := ks) (f := tru) rfl ?_ wk.nd (by omega) ?_)) ?_ ?_
      · exact List.Pairwise.filter _ List.pairwise_lt_range
      · intro j
        rw [hm, List.mem_filter, List.mem_range, clo_iff hrr]
        constructor
        · exact fun g => ⟨(wk.ok j ((hm j).mpr g)).1, g⟩
        · exact fun g => g.2
      · rw [List.length_map]
        omega
      · refine hnx _ ⟨.val (nt o), dKN tru ks, .lst [], a, b, c, ?_⟩
        rw [List.map_append]
        rfl
    · rcases List.eq_nil_or_concat ws with rfl | ⟨r, here, e⟩
      · exact absurd rfl z
      rw [List.concat_eq_append] at e
      subst e
      refine seq_pop1 (xs := r.map nt) (x := nt here) (by rw [List.map_append]; rfl) ?_
      refine for_v (seqI_v hi (fun Q q => q)) ?_
      rw [List.length_append, List.length_singleton] at hm2
      have hh := wk.wo here (List.mem_append_right _ List.mem_cons_self)
      refine for_inv npr (VI n (memR l) D (pre.map ans) o here (2 * (n - ks.length) + r.length)) (pre := []) ?_ ?_ ?_
      · refine ⟨ks, r, b, c, rfl, Nat.le_refl _, ⟨wk.nd, wk.ok, fun w h => wk.wo w (List.mem_append_left _ h)⟩, hh, fun x hx h => ?_, fun y h => nomatch h⟩
        rcases hc x h with h | h
        · rcases List.mem_append.mp h with h | h
          · exact .inl h
          · exact absurd (List.mem_singleton.mp h) hx
        · exact .inr h
      · rintro pr y po ρ E2 - ⟨ks, ws, b, c, rfl, hM, wk, hh, hc, hp⟩ hy hrt hnx2 -
        have hkl := nodup_len wk.nd fun k h => (wk.ok k h).1
        refine g2_v ?_
        show wIfS _ _ _ E2 [.val (nt n), .val D, .lst (pre.map ans), .val (nt o), dKN tru ks, .lst (ws.map nt), .val (nt here), .val (nt y.1), .val (nt y.2)]
        by_cases e1 : y.1 = here
        · have h1 : Tst (wTst (wOp rEqI (wVar 7) (wVar 6))) [.val (nt n), .val D, .lst (pre.map ans), .val (nt o), dKN tru ks, .lst (ws.map nt), .val (nt here), .val (nt y.1), .val (nt y.2)] true := fun Q q => ⟨trivial, by
            show Q (decide ((y.1 : Int) = (here : Int)))
            rw [decide_eq_true (by omega)]
            exact q⟩
          have h2 := val_tst (dIn_N (neg := true) (wy := wVar 8) (ρ := [.val (nt n), .val D, .lst (pre.map ans), .val (nt o), dKN tru ks, .lst (ws.map nt), .val (nt here), .val (nt y.1), .val (nt y.2)]) (i := 4) (f := tru) (ks := ks) (k := y.2) rfl (fun Q q => q))
          by_cases e2 : y.2 ∈ ks
          · rw [decide_eq_true e2] at h2
            refine if_f (and_s h1 h2) (hnx2 _ ⟨ks, ws, _, _, rfl, hM, wk, hh, hc, fun z hz e => ?_⟩)
            rcases List.mem_append.mp hz with hz | hz
            · exact hp z hz e
            · rw [List.mem_singleton.mp hz]
              exact e2
          · rw [decide_eq_false e2] at h2
            have hyl : memR l here y.2 = true := memR_iff.mpr (by rw [← e1]; exact hy)
            have hyp : Pth (memR l) o y.2 := by
              rcases hh with h | h
              · rw [← h]
                exact .one hyl
              · exact (wk.ok here h).2.trans (.one hyl)
            have wk' : Wk (memR l) n o (ks ++ [y.2]) (ws ++ [y.2]) := by
              refine ⟨List.nodup_append.mpr ⟨wk.nd, List.nodup_cons.mpr ⟨fun z => (nomatch z), List.nodup_nil⟩, ?_⟩, fun k hk => ?_, fun w hw => ?_⟩
              · intro a ha b hb e
                rw [List.mem_singleton.mp hb] at e
                rw [e] at ha
                exact e2 ha
              · rcases List.mem_append.mp hk with hk | hk
                · exact wk.ok k hk
                · rw [List.mem_singleton.mp hk]
                  exact ⟨(hr y hy).2, hyp⟩
              · rcases List.mem_append.mp hw with hw | hw
                · exact (wk.wo w hw).imp _root_.id (List.mem_append_left _)
                · exact .inr (List.mem_append_right _ hw)
            have hkl' := nodup_len wk'.nd fun k h => (wk'.ok k h).1
            rw [List.length_append, List.length_singleton] at hkl'
            refine if_t (and_s h1 h2) (seq_putN (f := tru) (ks := ks) (k := y.2) rfl (fun Q q => q) (fun Q q => q) e2 (by omega) ?_)
            refine app_v (ds := ws.map nt) (d := nt y.2) rfl (fun Q q => q) (by rw [List.length_map]; omega) (hnx2 _ ⟨ks ++ [y.2], ws ++ [y.2], .val (nt y.1), .val (nt y.2), ?_, ?_, wk', hh.imp _root_.id (List.mem_append_left _), fun x hx h => ?_, fun z hz e => ?_⟩)
            · rw [List.map_append]
              rfl
            · rw [List.length_append, List.length_append, List.length_singleton]
              show 2 * (n - (ks.length + 1)) + (ws.length + 1) ≤ _
              omega
            · have h' : (x = o ∨ x ∈ ks) ∨ x = y.2 := by
                rcases h with h | h
                · exact .inl (.inl h)
                · rcases List.mem_append.mp h with h | h
                  · exact .inl (.inr h)
                  · exact .inr (List.mem_singleton.mp h)
              rcases h' with h' | h'
              · exact (hc x hx h').imp (List.mem_append_left _) (fun g j e => List.mem_append_left _ (g j e))
              · exact .inl (List.mem_append_right _ (List.mem_singleton.mpr h'))
            · rcases List.mem_append.mp hz with hz | hz
              · exact List.mem_append_left _ (hp z hz e)
              · rw [List.mem_singleton.mp hz]
                exact List.mem_append_right _ List.mem_cons_self
        · have h1 : Tst (wTst (wOp rEqI (wVar 7) (wVar 6))) [.val (nt n), .val D, .lst (pre.map ans), .val (nt o), dKN tru ks, .lst (ws.map nt), .val (nt here), .val (nt y.1), .val (nt y.2)] false := fun Q q => ⟨trivial, by
            show Q (decide ((y.1 : Int) = (here : Int)))
            rw [decide_eq_false (by omega)]
            exact q⟩
          refine if_f (and_f h1) (hnx2 _ ⟨ks, ws, _, _, rfl, hM, wk, hh, hc, fun z hz e => ?_⟩)
          rcases List.mem_append.mp hz with hz | hz
          · exact hp z hz e
          · rw [List.mem_singleton.mp hz] at e
            exact absurd e e1
      · rintro ρ ⟨ks', ws', b, c, rfl, hM, wk', hh, hc', hp⟩
        refine ⟨2 * (n - ks'.length) + ws'.length, by rw [List.length_append, List.length_singleton]; omega, ks', ws', _, _, _, rfl, rfl, by omega, wk', fun x h => ?_⟩
        by_cases e : x = here
        · subst e
          exact .inr fun j g => hp (x, j) (memR_iff.mp g) rfl
        · exact hc' x e h
  · rintro ρ ⟨b1, b2, b3, b4, b5, b6, rfl⟩
    exact q
end Qp
set_option maxHeartbeats 2000000
namespace Qp
open PySem PySem.Spec PyProof.Rows L2 Qd
theorem atI_mapD {α : Type} (f : α → PyData) (xs : List α) (k : Nat) (h : k < xs.length) : atI (xs.map f) (k : Int) = some (f xs[k]) := by
  rw [atI_nat _ _ (by rw [List.length_map]; exact h), List.getElem_map]
theorem atI_range (f : Nat → PyData) {n k : Nat} (h : k < n) : atI ((List.range n).map f) (k : Int) = some (f k) := by
  rw [atI_mapD f _ k (by rw [List.length_range]; exact h), List.getElem_range]
theorem cont_nat (xs : List Nat) (k : Nat) : (xs.map fun (i : Nat) => (i : Int)).contains (k : Int) = xs.contains k := by
  induction xs with
  | nil => rfl
  | cons x xs ih =>
    rw [List.map_cons, List.contains_cons, List.contains_cons, ih]
    congr 1
    by_cases e : k = x
    · subst e
      simp
    · rw [beq_false_of_ne e, beq_false_of_ne (fun z => e (by omega))]
theorem inD_nat (xs : List Nat) (k : Nat) : inD (nt k) (xs.map nt) = xs.contains k := by
  rw [← cont_nat]
  exact inD_ints (fun (i : Nat) => (i : Int)) (k : Int) xs
theorem in_nat {neg : Bool} {wa wb : WE} {ρ : En} {d : PyData} {xs : List Nat} {k : Nat} (hd : d = nts xs ∨ d = .list (xs.map nt)) (ha : Val wa ρ (nt k)) (hb : Val wb ρ d) : Val (wOp (rInD neg) wa wb) ρ (.bool (if neg then !xs.contains k else xs.contains k)) := fun Q q => ha _ (hb _ (by
  have e : itemsD d = some (xs.map nt) := by rcases hd with rfl | rfl <;> rfl
  show (match itemsD d with
    | some ds => (flatD (nt k) = true ∧ ds.all flatD = true) ∧ Q (.bool (if neg then !inD (nt k) ds else inD (nt k) ds))
    | none => False)
  rw [e]
  refine ⟨⟨rfl, flat_ints (fun (i : Nat) => (i : Int)) xs⟩, ?_⟩
  rw [inD_nat]
  exact q))
theorem ix_ups {wa wb : WE} {ρ : En} {n a : Nat} {p : Rel} (ha : Val wa ρ (upsD n p)) (hb : Val wb ρ (nt a)) (h : a < n) : Val (wOp Qd.rIxD wa wb) ρ (.list (((List.range n).filter (p a)).map nt)) := fun Q q => ha _ (hb _ ⟨_, atI_range (fun i => PyData.list (((List.range n).filter (p i)).map nt)) h, q⟩)
theorem filt_cont {n b : Nat} (h : b < n) (f : Nat → Bool) : ((List.range n).filter f).contains b = f b := by
  refine bool_ext ?_
  rw [List.contains_iff_mem, List.mem_filter, List.mem_range]
  exact ⟨fun z => z.2, fun z => ⟨h, z⟩⟩
theorem in_ups {wu wa wb : WE} {ρ : En} {n a b : Nat} {p : Rel} (hu : Val wu ρ (upsD n p)) (ha : Val wa ρ (nt a)) (hb : Val wb ρ (nt b)) (h1 : a < n) (h2 : b < n) : Val (wOp (rInD false) wb (wOp Qd.rIxD wu wa)) ρ (.bool (p a b)) := by
  have := in_nat (neg := false) (.inr rfl) hb (ix_ups hu ha h1)
  rw [filt_cont h2] at this
  exact this
theorem flat_len {α β : Type} {f : α → List β} {k : Nat} : ∀ {l : List α}, (∀ a ∈ l, (f a).length ≤ k) → (l.flatMap f).length ≤ l.length * k
  | [], _ => Nat.zero_le _
  | a :: l, h => by
    have h1 := h a List.mem_cons_self
    have h2 := flat_len fun b hb => h b (List.mem_cons_of_mem a hb)
    rw [List.flatMap_cons, List.length_append, List.length_cons, Nat.add_mul, Nat.one_mul]
    omega
theorem lot_len {n : Nat} {lot : List Nat} (h : LotOk n lot) : lot.length ≤ n := nodup_len h.nodup h.lt
theorem andV_v {wa wb : WE} {ρ : En} {a b : Bool} (ha : Val wa ρ (.bool a)) (hb : Val wb ρ (.bool b)) : Val (wAndV wa wb) ρ (.bool (a && b)) := fun Q q => ha _ (by
  show if a = true then wb ρ Q else Q (.bool false)
  cases a
  · rw [if_neg (by simp)]
    exact q
  · rw [if_pos rfl]
    exact hb _ q)
theorem and_v {t u : WT} {ρ : En} {a b : Bool} (h : Tst t ρ a) (k : a = true → Tst u ρ b) : Tst (wAnd t u) ρ (a && b) := by
  cases a
  · exact and_f h
  · exact and_s h (k rfl)
theorem not_v {t : WT} {ρ : En} {b : Bool} (h : Tst t ρ b) : Tst (wNot t) ρ (!b) := not_s (by rw [Bool.not_not]; exact h)
theorem if_v {t : WT} {w w2 : WS} {E : WEnds} {ρ : En} {b : Bool} (h : Tst t ρ b) (k1 : b = true → w E ρ) (k2 : b = false → w2 E ρ) : wIfS t w w2 E ρ := by
  cases b
  · exact if_f h (k2 rfl)
  · exact if_t h (k1 rfl)
theorem snoc_t {α : Type} {f : α → Bool} {l : List α} {b : α} (e : f b = true) : (l ++ [b]).filter f = l.filter f ++ [b] := by simp [List.filter_append, e]
theorem snoc_f {α : Type} {f : α → Bool} {l : List α} {b : α} (e : f b = false) : (l ++ [b]).filter f = l.filter f := by simp [List.filter_append, e]
theorem g1_v {a : Nat} {x : PyData} {ρ : En} {K : En → Prop} (k : K (ρ.set a (.val x))) : wgName a x ρ K := k
/-! ### covers_by -/
theorem rd_covers_by : ∀ bs Q, sp_covers_by bs Q → w_covers_by { nx := fun _ => Q .none, rt := Q } (bs ++ List.replicate (N_covers_by.length - bs.length) .no) := by
  rintro bs Q ⟨n, p, lot, hn, ok, rfl, q⟩
  have hll := lot_len ok
  have hls : ∀ ρ, ρ.getD 1 Bd.no = .val (nts lot) → ValP (wSeqI (wVar 1)) ρ (lot.map nt) := fun ρ h => seqI_v (d := nts lot) rfl fun Q q => by
    unfold wVar
    rw [h]
    exact q
  let row : Nat → List (Nat × Nat) := fun a => (lot.filter fun b => p a b && !(lot.any fun c => p a c && p c b)).map fun b => (a, b)
  have hrow : ∀ (l : List Nat) a, ((l.filter fun b => p a b && !(lot.any fun c => p a c && p c b)).map fun b => (a, b)).length ≤ l.length := fun l a => by
    rw [List.length_map]
    exact List.length_filter_le _ _
  refine seq_setO (lst_v (ds := []) (fun Q q => q) (Nat.zero_le _)) ?_
  refine seq_for (hls _ rfl) ?_
  refine for_pre (all := lot) nt (fun pre ρ => ∃ b3 b4 b5, ρ = [.val (upsD n p), .val (nts lot), .lst ((pre.flatMap row).map npr), b3, b4, b5]) ?_ ?_ (pre := []) rfl ⟨_, _, _, rfl⟩
  · rintro pre a post ρ E1 he ⟨b3, b4, b5, rfl⟩ hrt hnx -
    have ha : a ∈ lot := by rw [← he]; simp
    have hpl : pre.length < lot.length := by
      rw [← he, List.length_append, List.length_cons]
      omega
    have hfl : (pre.flatMap row).length ≤ pre.length * lot.length := flat_len fun a _ => hrow lot a
    have hfl' : pre.length * lot.length ≤ 10 * 10 := Nat.mul_le_mul (by omega) (by omega)
    refine g1_v ?_
    show wFor _ _ _ _ [.val (upsD n p), .val (nts lot), .lst ((pre.flatMap row).map npr), .val (nt a), b4, b5]
    refine for_v (hls _ rfl) ?_
    refine for_pre (all := lot) nt (fun pr2 ρ => ∃ b4 b5, ρ = [.val (upsD n p), .val (nts lot), .lst ((pre.flatMap row ++ (pr2.filter fun b => p a b && !(lot.any fun c => p a c && p c b)).map fun b => (a, b)).map npr), .val (nt a), b4, b5]) ?_ ?_ (pre := []) rfl ⟨b4, b5, by simp⟩
    · rintro pr2 b po2 ρ E2 he2 ⟨b4, b5, rfl⟩ hrt2 hnx2 -
      have hb : b ∈ lot := by rw [← he2]; simp
      have hp2 : pr2.length < lot.length := by
        rw [← he2, List.length_append, List.length_cons]
        omega
      refine g1_v ?_
      let e1 : En := [.val (upsD n p), .val (nts lot), .lst ((pre.flatMap row ++ (pr2.filter fun b => p a b && !(lot.any fun c => p a c && p c b)).map fun b => (a, b)).map npr), .val (nt a), .val (nt b), b5]
      show wIfS _ _ _ E2 e1
      have t1 : Tst (wTst (wOp (rInD false) (wVar 4) (wOp Qd.rIxD (wVar 0) (wVar 3)))) e1 (p a b) := val_tst (in_ups (n := n) (p := p) (fun Q q => q) (fun Q q => q) (fun Q q => q) (ok.lt a ha) (ok.lt b hb))
      have t2 := val_any (ρ := e1) (vs := [5]) (wl := wSeqI (wVar 1)) (g := wgName 5) (te := wAndV (wOp (rInD false) (wVar 5) (wOp Qd.rIxD (wVar 0) (wVar 3))) (wOp (rInD false) (wVar 4) (wOp Qd.rIxD (wVar 0) (wVar 5)))) nt (fun c => p a c && p c b) lot (by omega) (hls _ rfl) (fun c hc Q q => g1_v (andV_v
        (in_ups (ρ := [.val (upsD n p), .val (nts lot), .lst ((pre.flatMap row ++ (pr2.filter fun b => p a b && !(lot.any fun c => p a c && p c b)).map fun b => (a, b)).map npr), .val (nt a), .val (nt b), .val (nt c)]) (n := n) (p := p) (fun Q q => q) (fun Q q => q) (fun Q q => q) (ok.lt a ha) (ok.lt c hc))
        (in_ups (ρ := [.val (upsD n p), .val (nts lot), .lst ((pre.flatMap row ++ (pr2.filter fun b => p a b && !(lot.any fun c => p a c && p c b)).map fun b => (a, b)).map npr), .val (nt a), .val (nt b), .val (nt c)]) (n := n) (p := p) (fun Q q => q) (fun Q q => q) (fun Q q => q) (ok.lt c hc) (ok.lt b hb)) _ q))
      refine if_v (and_v t1 fun _ => not_v (val_tst t2)) (fun e => ?_) (fun e => ?_)
      · refine app_v (ds := (pre.flatMap row ++ (pr2.filter fun b => p a b && !(lot.any fun c => p a c && p c b)).map fun b => (a, b)).map npr) (d := npr (a, b)) rfl (tup_v (fun Q q => q) (by show 2 ≤ 1000; decide)) ?_ (hnx2 _ ⟨.val (nt b), b5, ?_⟩)
        · have := hrow pr2 a
          rw [List.length_map, List.length_append]
          omega
        · rw [snoc_t (f := fun b => p a b && !(lot.any fun c => p a c && p c b)) e, List.map_append (f := fun b => (a, b)), ← List.append_assoc, List.map_append (l₂ := List.map _ [b])]
          rfl
      · refine hnx2 _ ⟨.val (nt b), b5, ?_⟩
        rw [snoc_f (f := fun b => p a b && !(lot.any fun c => p a c && p c b)) e]
    · rintro ρ ⟨b4, b5, rfl⟩
      refine hnx _ ⟨.val (nt a), b4, b5, ?_⟩
      rw [List.flatMap_append, List.flatMap_cons, List.flatMap_nil, List.append_nil]
  · rintro ρ ⟨b3, b4, b5, rfl⟩
    exact q
/-! ### closed -/
theorem ups_row (n : Nat) (f : Nat → Bool) : ((List.range n).filter f).length ≤ n := Nat.le_trans (List.length_filter_le _ _) (by rw [List.length_range]; exact Nat.le_refl _)
theorem rd_closed : ∀ bs Q, sp_closed bs Q → w_closed { nx := fun _ => Q .none, rt := Q } (bs ++ List.replicate (N_closed.length - bs.length) .no) := by
  rintro bs Q ⟨n, l, D, hn, hr, hl, hD, rfl, q⟩
  refine seq_set (d := upsD n (clo n (memR l))) (fun Q q => ⟨rfl, n, l, D, hn, hr, hl, hD, rfl, q⟩) ?_
  refine seq_setO (lst_v (ds := []) (fun Q q => q) (Nat.zero_le _)) ?_
  refine seq_for (ds := rngD n) (fun Q q => ⟨⟨by omega, by omega⟩, q⟩) ?_
  rw [rng_map]
  let row : Nat → List (Nat × Nat) := fun a => ((List.range n).filter (clo n (memR l) a)).map fun b => (a, b)
  have hrow : ∀ a, (row a).length ≤ n := fun a => by
    rw [List.length_map]
    exact ups_row n _
  refine for_pre (all := List.range n) (fun (i : Nat) => PyData.int (i : Int)) (fun pre ρ => ∃ b4 b5, ρ = [.val (nt n), .val D, .val (upsD n (clo n (memR l))), .lst ((pre.flatMap row).map npr), b4, b5]) ?_ ?_ (pre := []) rfl ⟨_, _, rfl⟩
  · rintro pre a post ρ E1 he ⟨b4, b5, rfl⟩ hrt hnx -
    have ha : a < n := by
      have : a ∈ List.range n := by rw [← he]; simp
      exact List.mem_range.mp this
    have hpl : pre.length < n := by
      have := congrArg List.length he
      rw [List.length_append, List.length_cons, List.length_range] at this
      omega
    have hfl : (pre.flatMap row).length ≤ pre.length * n := flat_len fun a _ => hrow a
    have hfl' : pre.length * n ≤ 10 * 10 := Nat.mul_le_mul (by omega) (by omega)
    refine g1_v ?_
    show wExt _ _ E1 [.val (nt n), .val D, .val (upsD n (clo n (memR l))), .lst ((pre.flatMap row).map npr), .val (nt a), b5]
    refine ext_v (ds := (pre.flatMap row).map npr) (es := (row a).map npr) rfl ?_ ?_ (hnx _ ⟨.val (nt a), b5, ?_⟩)
    · rw [show (row a).map npr = ((List.range n).filter (clo n (memR l) a)).map fun b => npr (a, b) by rw [List.map_map]; rfl]
      refine valP_lc nt (fun b => npr (a, b)) _ (by have := ups_row n (clo n (memR l) a); omega) (seqI_v rfl (ix_ups (n := n) (p := clo n (memR l)) (fun Q q => q) (fun Q q => q) ha)) (fun b hb Q q => g1_v ?_)
      exact tup_v (ds := [nt a, nt b]) (fun Q q => q) (by show 2 ≤ 1000; decide) _ q
    · have := hrow a
      rw [List.length_map, List.length_map]
      omega
    · rw [List.flatMap_append, List.flatMap_cons, List.flatMap_nil, List.append_nil, List.map_append]
      rfl
  · rintro ρ ⟨b4, b5, rfl⟩
    exact q
end Qp
set_option maxHeartbeats 2000000
namespace Qp
open PySem PySem.Spec PyProof.Rows L2 Qd
theorem seq_asg3 {a b c : Nat} {we : WE} {rest : WS} {E : WEnds} {ρ : En} {x y z : PyData} (h : Val we ρ (.tuple [x, y, z])) (k : rest E (((ρ.set a (.val x)).set b (.val y)).set c (.val z))) : wSeq (wAsg we (wgTup 3 (wgCons (wgName a) (wgCons (wgName b) (wgCons (wgName c) wgNil))))) rest E ρ := h _ ⟨rfl, k⟩
theorem enum_map {α : Type} (f : α → PyData) (xs : List α) : enumD (xs.map f) = xs.zipIdx.map fun p => .tuple [nt p.2, f p.1] := by
  unfold enumD
  rw [List.zipIdx_map, List.map_map]
  rfl
theorem enum_range (f : Nat → PyData) (n : Nat) : enumD ((List.range n).map f) = (List.range n).map fun i => .tuple [nt i, f i] := by
  rw [enum_map]
  refine List.ext_getElem (by simp) fun i h1 h2 => ?_
  simp
theorem enum_v {we : WE} {ρ : En} {d : PyData} {ds : List PyData} (hi : itemsD d = some ds) (h : Val we ρ d) : ValP (wEnum we) ρ (enumD ds) := fun Q q => h _ (by
  show (match itemsD d with
    | some ds => Q (enumD ds)
    | none => False)
  rw [hi]
  exact q)
theorem rd_need_field : ∀ bs Q, sp_need_field bs Q → w_need_field { nx := fun _ => Q .none, rt := Q } (bs ++ List.replicate (N_need_field.length - bs.length) .no) := by
  rintro bs Q ⟨F, h, rfl, q⟩
  have h45 := ties_45 h
  have hn := h.n
  refine seq_f (or_f (not_s fun Q q => q) (fun Q q => ⟨trivial, q⟩)) ?_
  refine seq_asg3 (x := nt F.n) (y := .tuple ((tiesL F.n F.lt).map npr)) (z := .tuple (F.s.map ipr)) (fun Q q => q) ?_
  refine seq_f (not_s fun Q q => ⟨rfl, F.n, 0, 10, rfl, by rw [decide_eq_true (by omega), decide_eq_true (by omega)]; exact q⟩) ?_
  refine seq_f (not_s fun Q q => ⟨rfl, F, h, rfl, q⟩) ?_
  let e1 : En := [.val (eF F), .val (nt F.n), .val (.tuple ((tiesL F.n F.lt).map npr)), .val (.tuple (F.s.map ipr)), .no, .no, .no]
  have hu : Val (wCall sp_ups_by 2 (wB (wVar 1) (wB (wVar 2) wB0))) e1 (upsD F.n F.lt) := fun Q q => by
    refine ⟨rfl, F.n, tiesL F.n F.lt, _, hn, fun x hx => ?_, by omega, .inl rfl, rfl, ?_⟩
    · obtain ⟨h1, h2, _⟩ := mem_ties.mp hx
      exact ⟨h1, h2⟩
    · rw [memR_ties h, clo_self h.rng h.tr]
      exact q
  have t1 := val_any (ρ := e1) (vs := [5, 6]) (wl := wEnum (wCall sp_ups_by 2 (wB (wVar 1) (wB (wVar 2) wB0)))) (g := wgTup 2 (wgCons (wgName 5) (wgCons (wgName 6) wgNil))) (te := wOp (rInD false) (wVar 5) (wVar 6))
    (fun i => .tuple [nt i, .list (((List.range F.n).filter (F.lt i)).map nt)]) (fun _ => false) (List.range F.n) (by rw [List.length_range]; omega) (by rw [← enum_range]; exact enum_v rfl hu) (fun i hi Q q => g2_v (by
      refine in_nat (neg := false) (ρ := [_, _, _, _, _, .val (nt i), .val (.list (((List.range F.n).filter (F.lt i)).map nt))]) (k := i) (.inr rfl) (fun Q q => q) (fun Q q => q) _ ?_
      rw [filt_cont (List.mem_range.mp hi), h.irr]
      exact q))
  rw [show ((List.range F.n).any fun _ => false) = false by rw [List.any_eq_false]; simp] at t1
  refine seq_f (val_tst t1) ?_
  refine seq_f (or_f (not_s fun Q q => q) (fun Q q => ⟨trivial, ?_⟩)) ?_
  · show Q (!decide (((F.s.map ipr).length : Int) = (F.n : Int)))
    rw [List.length_map, h.s, decide_eq_true (by rfl)]
    exact q
  refine seq_for (ds := F.s.zipIdx.map fun p => .tuple [nt p.2, ipr p.1]) (by rw [← enum_map]; exact enum_v rfl (fun Q q => q)) ?_
  refine for_pre (all := F.s.zipIdx) (fun p => PyData.tuple [nt p.2, ipr p.1]) (fun pre ρ => ∃ b4 b5 b6, ρ = [.val (eF F), .val (nt F.n), .val (.tuple ((tiesL F.n F.lt).map npr)), .val (.tuple (F.s.map ipr)), b4, b5, b6]) ?_ ?_ (pre := []) rfl ⟨_, _, _, rfl⟩
  · rintro pre x post ρ E1 he ⟨b4, b5, b6, rfl⟩ hrt hnx -
    have hx : x.1 ∈ F.s := by
      have h1 : x ∈ F.s.zipIdx := by rw [← he]; simp
      have := List.mem_map_of_mem (f := Prod.fst) h1
      rwa [List.zipIdx_map_fst] at this
    refine g2_v ?_
    show wIfS _ _ _ E1 [.val (eF F), .val (nt F.n), .val (.tuple ((tiesL F.n F.lt).map npr)), .val (.tuple (F.s.map ipr)), .val (nt x.2), .val (ipr x.1), b6]
    exact if_f (not_s fun Q q => ⟨rfl, x.1, h.ok _ hx, rfl, q⟩) (hnx _ ⟨_, _, _, rfl⟩)
  · rintro ρ ⟨b4, b5, b6, rfl⟩
    exact q
/-! ### sorted pairs -/
theorem ipr_isIT (x : Nat × Nat) : isIT (npr x) = true := rfl
theorem intsT_npr (x : Nat × Nat) : intsT (npr x) = [(x.1 : Int), (x.2 : Int)] := rfl
theorem lex_pair (a b c d : Int) : HT.lexLt [a, b] [c, d] = if a = c then decide (b < d) else decide (a < c) := by
  rw [HT.lexLt_cons, HT.lexLt_cons]
  by_cases h : a = c
  · rw [if_pos h, if_pos h]
    by_cases g : b = d
    · subst g
      rw [if_pos rfl]
      unfold HT.lexLt
      simp
    · rw [if_neg g]
  · rw [if_neg h, if_neg h]
theorem sort_pairs {l : List (Nat × Nat)} {n : Nat} {p : Rel} (hn : l.Nodup) (hm : ∀ x, x ∈ l ↔ x ∈ tiesL n p) {Q : List PyData → Prop} (q : Q ((tiesL n p).map npr)) : rSortT [.list (l.map npr)] Q := by
  refine ⟨⟨?_, .inl fun e he => ?_⟩, fun out hp hs => ?_⟩
  · rw [List.all_map]
    exact List.all_eq_true.mpr fun x _ => rfl
  · obtain ⟨x, _, rfl⟩ := List.mem_map.mp he
    rw [intsT_npr]
    simp
  · have hpl : l.Perm (tiesL n p) := (List.perm_ext_iff_of_nodup hn (ties_nodup n p)).mpr hm
    have e : out = (tiesL n p).map npr := by
      refine List.Perm.eq_of_pairwise (le := fun a b => HT.lexLt (intsT b) (intsT a) = false) ?_ hs ?_ (hp.trans (hpl.map _))
      · intro a b ha hb h1 h2
        obtain ⟨x, _, rfl⟩ := List.mem_map.mp (hp.mem_iff.mp ha)
        obtain ⟨y, _, rfl⟩ := List.mem_map.mp hb
        rw [intsT_npr, intsT_npr, lex_pair] at h1 h2
        by_cases g : (x.1 : Int) = (y.1 : Int)
        · rw [if_pos g.symm, decide_eq_false_iff_not] at h1
          rw [if_pos g, decide_eq_false_iff_not] at h2
          have : (x.2 : Int) = (y.2 : Int) := by omega
          show npr x = npr y
          rw [npr, npr, g, this]
        · rw [if_neg (fun z => g z.symm), decide_eq_false_iff_not] at h1
          rw [if_neg g, decide_eq_false_iff_not] at h2
          omega
      · rw [List.pairwise_map]
        refine (ties_sorted n p).imp fun {a b} h => ?_
        rw [intsT_npr, intsT_npr, lex_pair]
        rcases h with h | ⟨h, h'⟩
        · rw [if_neg (by omega)]
          exact decide_eq_false (by omega)
        · rw [if_pos (by omega)]
          exact decide_eq_false (by omega)
    rw [e]
    exact q
end Qp
set_option maxHeartbeats 4000000
namespace Qp
open PySem PySem.Spec PyProof.Rows L2 Qd
variable {P : Program} {w : World} {K : PySem.W.Frag} {mg : Str → Option Value} {base : Heap} {W : Wd}
abbrev N_row_of : List Str := ["field", "times", "found", "turn"]
abbrev s_row_of : Stmt := top 50
theorem sc_row_of : FnScope N_row_of ["field", "times"] (defScope s_row_of) := ⟨rfl, rfl, rfl, by decide +kernel, rfl, by decide +kernel, by decide +kernel⟩
def w_row_of : WS := (wSeq (wSet 2 (wVar 0))
  (wSeq (wFor (wRng (wOp rSubI (wVar 1) (wC (.int 1)))) (wgName 3) (wIfS (wTst (wOp rLeI (wOp rIxD (wVar 2) (wC (.int 0))) (wC (.int 10)))) (wSet 2 (wCall sp_laid 3 (wB (wVar 2) (wB (wVar 0) (wB (wC (.bool true)) wB0))))) wNext))
  (wRet (wVar 2))))
abbrev N_part_of : List Str := ["field", "lot", "spots", "pairs", "one", "spot", "near", "far"]
abbrev s_part_of : Stmt := top 51
theorem sc_part_of : FnScope N_part_of ["field", "lot"] (defScope s_part_of) := ⟨rfl, rfl, rfl, by decide +kernel, rfl, by decide +kernel, by decide +kernel⟩
def w_part_of : WS := (wSeq (wIfS (wNot (wTst (wCallB rAllD (wCons (wFz (wLc (wSeqI (wVar 1)) (wgName 4) wYes (wOp rLtI (wVar 4) (wOp rIxD (wVar 0) (wC (.int 0)))) [4])) wNil)))) (wRet (wC .none)) wNext)
  (wSeq (wSetDc 2 (wEnum (wVar 1)) (wgTup 2 (wgCons (wgName 5) (wgCons (wgName 4) wgNil))) wYes (wVar 4) (wVar 5) [5, 4])
  (wSeq (wSet 3 (wCall sp_covers_by 2 (wB (wCall sp_ups_by 2 (wB (wOp rIxD (wVar 0) (wC (.int 0))) (wB (wOp rIxD (wVar 0) (wC (.int 1))) wB0))) (wB (wVar 1) wB0))))
  (wSeq (wSet 3 (wCall sp_closed 2 (wB (wCallB rLen (wCons (wVar 1) wNil)) (wB (wFz (wLc (wSeqI (wVar 3)) (wgTup 2 (wgCons (wgName 6) (wgCons (wgName 7) wgNil))) wYes (wTup (wCons (wDGt 2 (wVar 6)) (wCons (wDGt 2 (wVar 7)) wNil))) [6, 7])) wB0))))
  (wRet (wTup (wCons (wCallB rLen (wCons (wVar 1) wNil)) (wCons (wVar 3) (wCons (wCallB rTupD (wCons (wFz (wLc (wSeqI (wVar 1)) (wgName 4) wYes (wOp rIxD (wOp rIxD (wVar 0) (wC (.int 2))) (wVar 4)) [4])) wNil)) wNil)))))))))
abbrev N_tied_of : List Str := ["field", "one", "other"]
abbrev s_tied_of : Stmt := top 52
theorem sc_tied_of : FnScope N_tied_of ["field", "one", "other"] (defScope s_tied_of) := ⟨rfl, rfl, rfl, by decide +kernel, rfl, by decide +kernel, by decide +kernel⟩
def w_tied_of : WS := (wSeq (wIfS (wTst (wOp rGeI (wCallB rMax2 (wCons (wVar 1) (wCons (wVar 2) wNil))) (wOp rIxD (wVar 0) (wC (.int 0))))) (wRet (wC .none)) wNext)
  (wRet (wTup (wCons (wOp rIxD (wVar 0) (wC (.int 0))) (wCons (wCall sp_closed 2 (wB (wOp rIxD (wVar 0) (wC (.int 0))) (wB (wFz (wLst (wStar (wOp rIxD (wVar 0) (wC (.int 1))) (wCons (wTup (wCons (wVar 1) (wCons (wVar 2) wNil))) wNil)))) wB0))) (wCons (wOp rIxD (wVar 0) (wC (.int 2))) wNil))))))
abbrev N_single_of : List Str := ["term", "field", "word", "size", "pairs", "seen", "turned", "worth", "weight", "near", "far"]
abbrev s_single_of : Stmt := top 53
theorem sc_single_of : FnScope N_single_of ["term", "field"] (defScope s_single_of) := ⟨rfl, rfl, rfl, by decide +kernel, rfl, by decide +kernel, by decide +kernel⟩
def w_single_of : WS := (wSeq (wSet 2 (wOp rIxD (wVar 0) (wC (.int 0))))
  (wSeq (wAsg (wVar 1) (wgTup 3 (wgCons (wgName 3) (wgCons (wgName 4) (wgCons (wgName 5) wgNil)))))
  (wSeq (wIfS (wTst (wOp rEqS (wVar 2) (wC (.str "row")))) (wRet (wCall sp_row_of 2 (wB (wVar 1) (wB (wOp rIxD (wVar 0) (wC (.int 2))) wB0)))) wNext)
  (wSeq (wIfS (wTst (wOp rEqS (wVar 2) (wC (.str "moved")))) (wRet (wTup (wCons (wVar 3) (wCons (wVar 4) (wCons (wCallB rTupD (wCons (wFz (wLc (wSeqI (wVar 5)) (wgTup 2 (wgCons (wgName 7) (wgCons (wgName 8) wgNil))) wYes (wTup (wCons (wOp rAddI (wVar 7) (wOp rIxD (wVar 0) (wC (.int 2)))) (wCons (wVar 8) wNil))) [7, 8])) wNil)) wNil))))) wNext)
  (wSeq (wIfS (wTst (wOp rEqS (wVar 2) (wC (.str "times")))) (wRet (wTup (wCons (wVar 3) (wCons (wVar 4) (wCons (wCallB rTupD (wCons (wFz (wLc (wSeqI (wVar 5)) (wgTup 2 (wgCons (wgName 7) (wgCons (wgName 8) wgNil))) wYes (wTup (wCons (wVar 7) (wCons (wOp rMulI (wVar 8) (wOp rIxD (wVar 0) (wC (.int 2)))) wNil))) [7, 8])) wNil)) wNil))))) wNext)
  (wSeq (wIfS (wTst (wOp rEqS (wVar 2) (wC (.str "tied")))) (wRet (wCall sp_tied_of 3 (wB (wVar 1) (wB (wOp rIxD (wVar 0) (wC (.int 2))) (wB (wOp rIxD (wVar 0) (wC (.int 3))) wB0))))) wNext)
  (wSeq (wIfS (wTst (wOp rEqS (wVar 2) (wC (.str "only")))) (wRet (wCall sp_part_of 2 (wB (wVar 1) (wB (wOp rIxD (wVar 0) (wC (.int 2))) wB0)))) wNext)
  (wSeq (wSet 6 (wCallB rTupD (wCons (wFz (wCallF rSortT (wCons (wFz (wLc (wSeqI (wVar 4)) (wgTup 2 (wgCons (wgName 9) (wgCons (wgName 10) wgNil))) wYes (wTup (wCons (wVar 10) (wCons (wVar 9) wNil))) [9, 10])) wNil))) wNil)))
  (wRet (wTup (wCons (wVar 3) (wCons (wVar 6) (wCons (wCallB rTupD (wCons (wFz (wLc (wSeqI (wVar 5)) (wgTup 2 (wgCons (wgName 7) (wgCons (wgName 8) wgNil))) wYes (wTup (wCons (wOp rSubI (wC (.int 0)) (wVar 7)) (wCons (wVar 8) wNil))) [7, 8])) wNil)) wNil)))))))))))))
abbrev N_by_word : List Str := ["term", "some"]
abbrev s_by_word : Stmt := top 54
theorem sc_by_word : FnScope N_by_word ["term", "some"] (defScope s_by_word) := ⟨rfl, rfl, rfl, by decide +kernel, rfl, by decide +kernel, by decide +kernel⟩
def w_by_word : WS := (wSeq (wIfS (wTst (wOp rEqS (wOp rIxD (wVar 0) (wC (.int 0))) (wC (.str "thing")))) (wRet (wTup (wCons (wC (.int 1)) (wCons (wTup wNil) (wCons (wTup (wCons (wCut (wVar 0) (some 1) none) wNil)) wNil))))) wNext)
  (wSeq (wIfS (wTst (wOp rEqS (wOp rIxD (wVar 0) (wC (.int 0))) (wC (.str "none")))) (wRet (wTup (wCons (wC (.int 0)) (wCons (wTup wNil) (wCons (wTup wNil) wNil))))) wNext)
  (wSeq (wIfS (wTst (wUn (rInG false ["beside", "below"]) (wOp rIxD (wVar 0) (wC (.int 0))))) (wRet (wCall sp_laid 3 (wB (wOp rIxD (wVar 1) (wC (.int 0))) (wB (wOp rIxD (wVar 1) (wC (.int 1))) (wB (wOp rEqS (wOp rIxD (wVar 0) (wC (.int 0))) (wC (.str "below"))) wB0))))) wNext)
  (wRet (wCall sp_single_of 2 (wB (wVar 0) (wB (wOp rIxD (wVar 1) (wC (.int 0))) wB0)))))))
abbrev N_is_good : List Str := ["found", "one", "near", "far"]
abbrev s_is_good : Stmt := top 55
theorem sc_is_good : FnScope N_is_good ["found"] (defScope s_is_good) := ⟨rfl, rfl, rfl, by decide +kernel, rfl, by decide +kernel, by decide +kernel⟩
def w_is_good : WS := (wSeq (wIfS (wOr (wTst (wOp rIsN (wVar 0) (wC .none))) (wOr (wTst (wOp rGtI (wOp rIxD (wVar 0) (wC (.int 0))) (wC (.int 10)))) (wNot (wTst (wCallB rAllD (wCons (wFz (wLc (wSeqI (wOp rIxD (wVar 0) (wC (.int 2)))) (wgName 1) wYes (wCall sp_is_seen 1 (wB (wVar 1) wB0)) [1])) wNil)))))) (wRet (wC (.bool false))) wNext)
  (wRet (wNotV (wCallB rAnyD (wCons (wFz (wLc (wSeqI (wOp rIxD (wVar 0) (wC (.int 1)))) (wgTup 2 (wgCons (wgName 2) (wgCons (wgName 3) wgNil))) wYes (wOp rEqI (wVar 2) (wVar 3)) [2, 3])) wNil)))))
abbrev N_field_in : List Str := ["term", "paths", "found", "path", "here", "fresh", "place"]
abbrev s_field_in : Stmt := top 56
theorem sc_field_in : FnScope N_field_in ["term"] (defScope s_field_in) := ⟨rfl, rfl, rfl, by decide +kernel, rfl, by decide +kernel, by decide +kernel⟩
def w_field_in : WS := (wSeq (wAsgD 1 2 (wCall sp_paths_in 1 (wB (wVar 0) wB0)))
  (wSeq (wFor (wSeqI (wFz (wSortK (wVar 1)))) (wgName 3) (wSeq (wSet 4 (wCall sp_term_at 2 (wB (wVar 0) (wB (wVar 3) wB0))))
  (wSeq (wSet 5 (wCall sp_by_word 2 (wB (wVar 4) (wB (wFz (wLc (wSeqI (wCall sp_places_in 1 (wB (wVar 4) wB0))) (wgName 6) wYes (wDGt 2 (wOp rAddT (wVar 3) (wTup (wCons (wVar 6) wNil)))) [6])) wB0))))
  (wSeq (wIfS (wNot (wTst (wCall sp_is_good 1 (wB (wVar 5) wB0)))) wNever wNext)
  (wDPut 2 (wVar 3) (wVar 5))))))
  (wRet (wDGt 2 (wTup wNil)))))
abbrev N_need_term : List Str := ["thing"]
abbrev s_need_term : Stmt := top 57
theorem sc_need_term : FnScope N_need_term ["thing"] (defScope s_need_term) := ⟨rfl, rfl, rfl, by decide +kernel, rfl, by decide +kernel, by decide +kernel⟩
def w_need_term : WS := (wSeq (wDrop (wCall sp_field_in 1 (wB (wVar 0) wB0)))
  (wRet (wVar 0)))
abbrev N_field_of : List Str := ["term"]
abbrev s_field_of : Stmt := top 58
theorem sc_field_of : FnScope N_field_of ["term"] (defScope s_field_of) := ⟨rfl, rfl, rfl, by decide +kernel, rfl, by decide +kernel, by decide +kernel⟩
def w_field_of : WS := (wRet (wCall sp_field_in 1 (wB (wVar 0) wB0)))
abbrev N_kids_of : List Str := ["term", "place"]
abbrev s_kids_of : Stmt := top 59
theorem sc_kids_of : FnScope N_kids_of ["term"] (defScope s_kids_of) := ⟨rfl, rfl, rfl, by decide +kernel, rfl, by decide +kernel, by decide +kernel⟩
def w_kids_of : WS := (wSeq (wDrop (wCall sp_need_term 1 (wB (wVar 0) wB0)))
  (wRet (wCallB rTupD (wCons (wFz (wLc (wSeqI (wCall sp_places_in 1 (wB (wVar 0) wB0))) (wgName 1) wYes (wOp rIxD (wVar 0) (wVar 1)) [1])) wNil))))
theorem ok_row_of (T : Tx w K mg) {f : Addr} {fd : FuncData} (F : FnP K "row_of" s_row_of f fd) (hm : mg "row_of" = some (.ref f)) (C_laid : Cal P w K mg base W "laid" 1 3 sp_laid) (rd : ∀ bs Q, sp_row_of bs Q → w_row_of { nx := fun _ => Q .none, rt := Q } (bs ++ List.replicate (N_row_of.length - bs.length) .no)) : Cal P w K mg base W "row_of" 2 2 sp_row_of := by
  have sc := sc_row_of
  refine ⟨f, fd, ["field", "times"], fn_d F sc (wb := w_row_of) (fun cdv A outer s H E hr => ?_) rd, hm, F.kp, F.bindsN fun _ _ _ _ _ _ us hl => match us, hl with | [_, _], _ => rfl⟩
  exact (ds_cons (ds_set (i := 2) sc.nd rfl (by first | exact Or.inl rfl | exact Or.inr rfl) (de_var 0))
    (ds_cons (ds_for PassesOwn.never rfl (di_rng (de_bin od_sub (de_var 1) de_int) (by rfl) T.n_range) (dg_name (i := 3) sc.nd rfl (by first | exact Or.inl rfl | exact Or.inr rfl)) (ds_one (ds_if (dt_cmp (od_le) (de_ix (DE.pk (de_var 2)) de_int (fun _ _ => rfl)) (de_globI (by rfl) T.i_MOST_THINGS) (nomark _)) (ds_one (ds_set (i := 2) sc.nd rfl (by first | exact Or.inl rfl | exact Or.inr rfl) (de_cal C_laid (hr.mono (by decide)) (by rfl) (db_cons (de_var 2) (db_cons (de_var 0) (db_cons de_bl db_nil)))))) ds_nil)))
    (ds_one (ds_ret (de_var 2)))))
theorem ok_part_of (T : Tx w K mg) {f : Addr} {fd : FuncData} (F : FnP K "part_of" s_part_of f fd) (hm : mg "part_of" = some (.ref f)) (C_covers_by : Cal P w K mg base W "covers_by" 1 2 sp_covers_by) (C_ups_by : Cal P w K mg base W "ups_by" 1 2 sp_ups_by) (C_closed : Cal P w K mg base W "closed" 2 2 sp_closed) (rd : ∀ bs Q, sp_part_of bs Q → w_part_of { nx := fun _ => Q .none, rt := Q } (bs ++ List.replicate (N_part_of.length - bs.length) .no)) : Cal P w K mg base W "part_of" 3 2 sp_part_of := by
  have sc := sc_part_of
  refine ⟨f, fd, ["field", "lot"], fn_d F sc (wb := w_part_of) (fun cdv A outer s H E hr => ?_) rd, hm, F.kp, F.bindsN fun _ _ _ _ _ _ us hl => match us, hl with | [_, _], _ => rfl⟩
  have hu1 := hu_of hr
  exact (ds_cons (ds_if (dt_not (dt_val (de_callB (cp_all rfl) (by rfl) T.n_all PyProof.Rows.boot_all (dp_cons (DE.pk (DF.de (df_lc (own := [("one", 4)]) rfl sc.nd (di_seq (de_var 1)) (blkOk_by (sc := defScope s_part_of) (own := [("one", 4)]) (N := N_part_of) (by decide +kernel)) (fun _ _ _ _ _ => (dg_name (i := 4) sc.nd rfl (by first | exact Or.inl rfl | exact Or.inr rfl))) (fun _ _ _ _ _ => dts_nil) (fun _ _ _ _ _ => (de_cmp (od_lt) (de_var 4) (de_ix (DE.pk (de_var 0)) de_int (fun _ _ => rfl)) (nomark _)))))) dp_nil)))) (ds_one (ds_ret de_non)) ds_nil)
    (ds_cons (ds_setDc (i := 2) (own := [("spot", 5), ("one", 4)]) sc.nd rfl (by first | exact Or.inl rfl | exact Or.inr rfl) rfl (di_enum (de_var 1) (by rfl) T.n_enumerate) (blkOk_by (sc := defScope s_part_of) (own := [("spot", 5), ("one", 4)]) (N := N_part_of) (by decide +kernel)) (fun _ _ _ _ _ => (dg_tup rfl (dgs_cons (dg_name (i := 5) sc.nd rfl (by first | exact Or.inl rfl | exact Or.inr rfl)) (dgs_cons (dg_name (i := 4) sc.nd rfl (by first | exact Or.inl rfl | exact Or.inr rfl)) dgs_nil)))) (fun _ _ _ _ _ => dts_nil) (fun _ _ _ _ _ => (de_var 4)) (fun _ _ _ _ _ => (de_var 5)))
    (ds_cons (ds_set (i := 3) sc.nd rfl (by first | exact Or.inl rfl | exact Or.inr rfl) (de_cal C_covers_by (hr.mono (by decide)) (by rfl) (db_cons (de_cal C_ups_by (hr.mono (by decide)) (by rfl) (db_cons (de_ix (DE.pk (de_var 0)) de_int (fun _ _ => rfl)) (db_cons (de_ix (DE.pk (de_var 0)) de_int (fun _ _ => rfl)) db_nil))) (db_cons (de_var 1) db_nil))))
    (ds_cons (ds_set (i := 3) sc.nd rfl (by first | exact Or.inl rfl | exact Or.inr rfl) (de_cal C_closed (hr.mono (by decide)) (by rfl) (db_cons (de_callB cp_len (by rfl) T.n_len PySem.boot_len (dp_cons (DE.pk (de_var 1)) dp_nil)) (db_cons (DF.de (df_lc (own := [("near", 6), ("far", 7)]) rfl sc.nd (di_seq (de_var 3)) (blkOk_by (sc := defScope s_part_of) (own := [("near", 6), ("far", 7)]) (N := N_part_of) (by decide +kernel)) (fun _ _ _ _ _ => (dg_tup rfl (dgs_cons (dg_name (i := 6) sc.nd rfl (by first | exact Or.inl rfl | exact Or.inr rfl)) (dgs_cons (dg_name (i := 7) sc.nd rfl (by first | exact Or.inl rfl | exact Or.inr rfl)) dgs_nil)))) (fun _ _ _ _ _ => dts_nil) (fun _ _ _ _ _ => (de_tup (da_cons (de_dget 2 hu1 (de_var 6) (fun _ _ => rfl)) (da_cons (de_dget 2 hu1 (de_var 7) (fun _ _ => rfl)) da_nil)))))) db_nil))))
    (ds_one (ds_ret (de_tup (da_cons (de_callB cp_len (by rfl) T.n_len PySem.boot_len (dp_cons (DE.pk (de_var 1)) dp_nil)) (da_cons (de_var 3) (da_cons (de_callT cp_tuple (by rfl) T.n_tuple PyProof.Rows.boot_tuple (dp_cons (DE.pk (DF.de (df_lc (own := [("one", 4)]) rfl sc.nd (di_seq (de_var 1)) (blkOk_by (sc := defScope s_part_of) (own := [("one", 4)]) (N := N_part_of) (by decide +kernel)) (fun _ _ _ _ _ => (dg_name (i := 4) sc.nd rfl (by first | exact Or.inl rfl | exact Or.inr rfl))) (fun _ _ _ _ _ => dts_nil) (fun _ _ _ _ _ => (de_ix (DE.pk (de_ix (DE.pk (de_var 0)) de_int (fun _ _ => rfl))) (de_var 4) (fun _ _ => rfl)))))) dp_nil)) da_nil))))))))))
theorem ok_tied_of (T : Tx w K mg) {f : Addr} {fd : FuncData} (F : FnP K "tied_of" s_tied_of f fd) (hm : mg "tied_of" = some (.ref f)) (C_closed : Cal P w K mg base W "closed" 2 2 sp_closed) (rd : ∀ bs Q, sp_tied_of bs Q → w_tied_of { nx := fun _ => Q .none, rt := Q } (bs ++ List.replicate (N_tied_of.length - bs.length) .no)) : Cal P w K mg base W "tied_of" 3 3 sp_tied_of := by
  have sc := sc_tied_of
  refine ⟨f, fd, ["field", "one", "other"], fn_d F sc (wb := w_tied_of) (fun cdv A outer s H E hr => ?_) rd, hm, F.kp, F.bindsN fun _ _ _ _ _ _ us hl => match us, hl with | [_, _, _], _ => rfl⟩
  exact (ds_cons (ds_if (dt_cmp (od_ge) (de_callB (cp_max2 rfl) (by rfl) T.n_max PyProof.Rows.boot_max (dp_cons (DE.pk (de_var 1)) (dp_cons (DE.pk (de_var 2)) dp_nil))) (de_ix (DE.pk (de_var 0)) de_int (fun _ _ => rfl)) (nomark _)) (ds_one (ds_ret de_non)) ds_nil)
    (ds_one (ds_ret (de_tup (da_cons (de_ix (DE.pk (de_var 0)) de_int (fun _ _ => rfl)) (da_cons (de_cal C_closed (hr.mono (by decide)) (by rfl) (db_cons (de_ix (DE.pk (de_var 0)) de_int (fun _ _ => rfl)) (db_cons (DF.de (df_lst (da_star (DE.pk (de_ix (DE.pk (de_var 0)) de_int (fun _ _ => rfl))) (da_cons (de_tup (da_cons (de_var 1) (da_cons (de_var 2) da_nil))) da_nil)))) db_nil))) (da_cons (de_ix (DE.pk (de_var 0)) de_int (fun _ _ => rfl)) da_nil)))))))
theorem ok_single_of (T : Tx w K mg) {f : Addr} {fd : FuncData} (F : FnP K "single_of" s_single_of f fd) (hm : mg "single_of" = some (.ref f)) (C_row_of : Cal P w K mg base W "row_of" 2 2 sp_row_of) (C_tied_of : Cal P w K mg base W "tied_of" 3 3 sp_tied_of) (C_part_of : Cal P w K mg base W "part_of" 3 2 sp_part_of) (rd : ∀ bs Q, sp_single_of bs Q → w_single_of { nx := fun _ => Q .none, rt := Q } (bs ++ List.replicate (N_single_of.length - bs.length) .no)) : Cal P w K mg base W "single_of" 4 2 sp_single_of := by
  have sc := sc_single_of
  refine ⟨f, fd, ["term", "field"], fn_d F sc (wb := w_single_of) (fun cdv A outer s H E hr => ?_) rd, hm, F.kp, F.bindsN fun _ _ _ _ _ _ us hl => match us, hl with | [_, _], _ => rfl⟩
  have hu64 := hr.units
  exact (ds_cons (ds_set (i := 2) sc.nd rfl (by first | exact Or.inl rfl | exact Or.inr rfl) (de_ix (DE.pk (de_var 0)) de_int (fun _ _ => rfl)))
    (ds_cons (ds_asg (de_var 1) (dg_tup rfl (dgs_cons (dg_name (i := 3) sc.nd rfl (by first | exact Or.inl rfl | exact Or.inr rfl)) (dgs_cons (dg_name (i := 4) sc.nd rfl (by first | exact Or.inl rfl | exact Or.inr rfl)) (dgs_cons (dg_name (i := 5) sc.nd rfl (by first | exact Or.inl rfl | exact Or.inr rfl)) dgs_nil)))))
    (ds_cons (ds_if (dt_cmp od_eqS (de_var 2) (de_globS (by rfl) T.s_ROW) (nomark _)) (ds_one (ds_ret (de_cal C_row_of (hr.mono (by decide)) (by rfl) (db_cons (de_var 1) (db_cons (de_ix (DE.pk (de_var 0)) de_int (fun _ _ => rfl)) db_nil))))) ds_nil)
    (ds_cons (ds_if (dt_cmp od_eqS (de_var 2) (de_globS (by rfl) T.s_MOVED) (nomark _)) (ds_one (ds_ret (de_tup (da_cons (de_var 3) (da_cons (de_var 4) (da_cons (de_callT cp_tuple (by rfl) T.n_tuple PyProof.Rows.boot_tuple (dp_cons (DE.pk (DF.de (df_lc (own := [("worth", 7), ("weight", 8)]) rfl sc.nd (di_seq (de_var 5)) (blkOk_by (sc := defScope s_single_of) (own := [("worth", 7), ("weight", 8)]) (N := N_single_of) (by decide +kernel)) (fun _ _ _ _ _ => (dg_tup rfl (dgs_cons (dg_name (i := 7) sc.nd rfl (by first | exact Or.inl rfl | exact Or.inr rfl)) (dgs_cons (dg_name (i := 8) sc.nd rfl (by first | exact Or.inl rfl | exact Or.inr rfl)) dgs_nil)))) (fun _ _ _ _ _ => dts_nil) (fun _ _ _ _ _ => (de_tup (da_cons (de_bin od_add (de_var 7) (de_ix (DE.pk (de_var 0)) de_int (fun _ _ => rfl))) (da_cons (de_var 8) da_nil))))))) dp_nil)) da_nil)))))) ds_nil)
    (ds_cons (ds_if (dt_cmp od_eqS (de_var 2) (de_globS (by rfl) T.s_TIMES) (nomark _)) (ds_one (ds_ret (de_tup (da_cons (de_var 3) (da_cons (de_var 4) (da_cons (de_callT cp_tuple (by rfl) T.n_tuple PyProof.Rows.boot_tuple (dp_cons (DE.pk (DF.de (df_lc (own := [("worth", 7), ("weight", 8)]) rfl sc.nd (di_seq (de_var 5)) (blkOk_by (sc := defScope s_single_of) (own := [("worth", 7), ("weight", 8)]) (N := N_single_of) (by decide +kernel)) (fun _ _ _ _ _ => (dg_tup rfl (dgs_cons (dg_name (i := 7) sc.nd rfl (by first | exact Or.inl rfl | exact Or.inr rfl)) (dgs_cons (dg_name (i := 8) sc.nd rfl (by first | exact Or.inl rfl | exact Or.inr rfl)) dgs_nil)))) (fun _ _ _ _ _ => dts_nil) (fun _ _ _ _ _ => (de_tup (da_cons (de_var 7) (da_cons (de_bin od_mul (de_var 8) (de_ix (DE.pk (de_var 0)) de_int (fun _ _ => rfl))) da_nil))))))) dp_nil)) da_nil)))))) ds_nil)
    (ds_cons (ds_if (dt_cmp od_eqS (de_var 2) (de_globS (by rfl) T.s_TIED) (nomark _)) (ds_one (ds_ret (de_cal C_tied_of (hr.mono (by decide)) (by rfl) (db_cons (de_var 1) (db_cons (de_ix (DE.pk (de_var 0)) de_int (fun _ _ => rfl)) (db_cons (de_ix (DE.pk (de_var 0)) de_int (fun _ _ => rfl)) db_nil)))))) ds_nil)
    (ds_cons (ds_if (dt_cmp od_eqS (de_var 2) (de_globS (by rfl) T.s_ONLY) (nomark _)) (ds_one (ds_ret (de_cal C_part_of (hr.mono (by decide)) (by rfl) (db_cons (de_var 1) (db_cons (de_ix (DE.pk (de_var 0)) de_int (fun _ _ => rfl)) db_nil))))) ds_nil)
    (ds_cons (ds_set (i := 6) sc.nd rfl (by first | exact Or.inl rfl | exact Or.inr rfl) (de_callT cp_tuple (by rfl) T.n_tuple PyProof.Rows.boot_tuple (dp_cons (DE.pk (DF.de (df_callB (cf_sorted hu64) (by rfl) T.n_sorted PyProof.Rows.boot_sorted (dp_cons (DE.pk (DF.de (df_lc (own := [("near", 9), ("far", 10)]) rfl sc.nd (di_seq (de_var 4)) (blkOk_by (sc := defScope s_single_of) (own := [("near", 9), ("far", 10)]) (N := N_single_of) (by decide +kernel)) (fun _ _ _ _ _ => (dg_tup rfl (dgs_cons (dg_name (i := 9) sc.nd rfl (by first | exact Or.inl rfl | exact Or.inr rfl)) (dgs_cons (dg_name (i := 10) sc.nd rfl (by first | exact Or.inl rfl | exact Or.inr rfl)) dgs_nil)))) (fun _ _ _ _ _ => dts_nil) (fun _ _ _ _ _ => (de_tup (da_cons (de_var 10) (da_cons (de_var 9) da_nil))))))) dp_nil)))) dp_nil)))
    (ds_one (ds_ret (de_tup (da_cons (de_var 3) (da_cons (de_var 6) (da_cons (de_callT cp_tuple (by rfl) T.n_tuple PyProof.Rows.boot_tuple (dp_cons (DE.pk (DF.de (df_lc (own := [("worth", 7), ("weight", 8)]) rfl sc.nd (di_seq (de_var 5)) (blkOk_by (sc := defScope s_single_of) (own := [("worth", 7), ("weight", 8)]) (N := N_single_of) (by decide +kernel)) (fun _ _ _ _ _ => (dg_tup rfl (dgs_cons (dg_name (i := 7) sc.nd rfl (by first | exact Or.inl rfl | exact Or.inr rfl)) (dgs_cons (dg_name (i := 8) sc.nd rfl (by first | exact Or.inl rfl | exact Or.inr rfl)) dgs_nil)))) (fun _ _ _ _ _ => dts_nil) (fun _ _ _ _ _ => (de_tup (da_cons (de_bin od_sub de_int (de_var 7)) (da_cons (de_var 8) da_nil))))))) dp_nil)) da_nil))))))))))))))
theorem ok_by_word (T : Tx w K mg) {f : Addr} {fd : FuncData} (F : FnP K "by_word" s_by_word f fd) (hm : mg "by_word" = some (.ref f)) (C_laid : Cal P w K mg base W "laid" 1 3 sp_laid) (C_single_of : Cal P w K mg base W "single_of" 4 2 sp_single_of) (rd : ∀ bs Q, sp_by_word bs Q → w_by_word { nx := fun _ => Q .none, rt := Q } (bs ++ List.replicate (N_by_word.length - bs.length) .no)) : Cal P w K mg base W "by_word" 5 2 sp_by_word := by
  have sc := sc_by_word
  refine ⟨f, fd, ["term", "some"], fn_d F sc (wb := w_by_word) (fun cdv A outer s H E hr => ?_) rd, hm, F.kp, F.bindsN fun _ _ _ _ _ _ us hl => match us, hl with | [_, _], _ => rfl⟩
  exact (ds_cons (ds_if (dt_cmp od_eqS (de_ix (DE.pk (de_var 0)) de_int (fun _ _ => rfl)) (de_globS (by rfl) T.s_THING) (nomark _)) (ds_one (ds_ret (de_tup (da_cons de_int (da_cons (de_tup da_nil) (da_cons (de_tup (da_cons (de_cut (de_var 0) po_lit po_no) da_nil)) da_nil)))))) ds_nil)
    (ds_cons (ds_if (dt_cmp od_eqS (de_ix (DE.pk (de_var 0)) de_int (fun _ _ => rfl)) (de_globS (by rfl) T.s_NONE) (nomark _)) (ds_one (ds_ret (de_tup (da_cons de_int (da_cons (de_tup da_nil) (da_cons (de_tup da_nil) da_nil)))))) ds_nil)
    (ds_cons (ds_if (dt_inG (neg := false) op_in_seq (de_ix (DE.pk (de_var 0)) de_int (fun _ _ => rfl)) (by rfl) T.g_DOUBLE T.t_DOUBLE) (ds_one (ds_ret (de_cal C_laid (hr.mono (by decide)) (by rfl) (db_cons (de_ix (DE.pk (de_var 1)) de_int (fun _ _ => rfl)) (db_cons (de_ix (DE.pk (de_var 1)) de_int (fun _ _ => rfl)) (db_cons (de_cmp od_eqS (de_ix (DE.pk (de_var 0)) de_int (fun _ _ => rfl)) (de_globS (by rfl) T.s_BELOW) (nomark _)) db_nil)))))) ds_nil)
    (ds_one (ds_ret (de_cal C_single_of (hr.mono (by decide)) (by rfl) (db_cons (de_var 0) (db_cons (de_ix (DE.pk (de_var 1)) de_int (fun _ _ => rfl)) db_nil))))))))
theorem ok_is_good (T : Tx w K mg) {f : Addr} {fd : FuncData} (F : FnP K "is_good" s_is_good f fd) (hm : mg "is_good" = some (.ref f)) (C_is_seen : Cal P w K mg base W "is_seen" 3 1 sp_is_seen) (rd : ∀ bs Q, sp_is_good bs Q → w_is_good { nx := fun _ => Q .none, rt := Q } (bs ++ List.replicate (N_is_good.length - bs.length) .no)) : Cal P w K mg base W "is_good" 4 1 sp_is_good := by
  have sc := sc_is_good
  refine ⟨f, fd, ["found"], fn_d F sc (wb := w_is_good) (fun cdv A outer s H E hr => ?_) rd, hm, F.kp, F.bindsN fun _ _ _ _ _ _ us hl => match us, hl with | [_], _ => rfl⟩
  exact (ds_cons (ds_if (PW.pt (dw_or (dt_cmp od_isN (de_var 0) de_non (nomark _)) (dw_or (dt_cmp (od_gt) (de_ix (DE.pk (de_var 0)) de_int (fun _ _ => rfl)) (de_globI (by rfl) T.i_MOST_THINGS) (nomark _)) (dw_or1 (dt_not (dt_val (de_callB (cp_all rfl) (by rfl) T.n_all PyProof.Rows.boot_all (dp_cons (DE.pk (DF.de (df_lc (own := [("one", 1)]) rfl sc.nd (di_seq (de_ix (DE.pk (de_var 0)) de_int (fun _ _ => rfl))) (blkOk_by (sc := defScope s_is_good) (own := [("one", 1)]) (N := N_is_good) (by decide +kernel)) (fun _ _ _ _ _ => (dg_name (i := 1) sc.nd rfl (by first | exact Or.inl rfl | exact Or.inr rfl))) (fun _ _ _ _ _ => dts_nil) (fun _ _ _ _ _ => (de_cal C_is_seen (hr.mono (by decide)) (by rfl) (db_cons (de_var 1) db_nil)))))) dp_nil)))))))) (ds_one (ds_ret de_bl)) ds_nil)
    (ds_one (ds_ret (de_not (de_callB (cp_any rfl) (by rfl) T.n_any PyProof.Rows.boot_any (dp_cons (DE.pk (DF.de (df_lc (own := [("near", 2), ("far", 3)]) rfl sc.nd (di_seq (de_ix (DE.pk (de_var 0)) de_int (fun _ _ => rfl))) (blkOk_by (sc := defScope s_is_good) (own := [("near", 2), ("far", 3)]) (N := N_is_good) (by decide +kernel)) (fun _ _ _ _ _ => (dg_tup rfl (dgs_cons (dg_name (i := 2) sc.nd rfl (by first | exact Or.inl rfl | exact Or.inr rfl)) (dgs_cons (dg_name (i := 3) sc.nd rfl (by first | exact Or.inl rfl | exact Or.inr rfl)) dgs_nil)))) (fun _ _ _ _ _ => dts_nil) (fun _ _ _ _ _ => (de_cmp od_eqI (de_var 2) (de_var 3) (nomark _)))))) dp_nil))))))
theorem ok_field_in (T : Tx w K mg) {f c tb : Addr} {fd : FuncData} (F : FunDc K "field_in" "field_in" (defArgs s_field_in) (defBody s_field_in) (defScope s_field_in) f fd c) (hm : mg "field_in" = some (.ref f)) (LW : LamW W tb "field_in.<locals>.<lambda>") (TB : LamX.TabB base mg c tb) (C_paths_in : Cal P w K mg base W "paths_in" 7 1 sp_paths_in) (C_term_at : Cal P w K mg base W "term_at" 1 2 sp_term_at) (C_by_word : Cal P w K mg base W "by_word" 5 2 sp_by_word) (C_places_in : Cal P w K mg base W "places_in" 1 1 sp_places_in) (C_is_good : Cal P w K mg base W "is_good" 4 1 sp_is_good) (rd : ∀ bs Q, sp_field_in bs Q → w_field_in { nx := fun _ => Q .none, rt := Q } (bs ++ List.replicate (N_field_in.length - bs.length) .no)) : Cal P w K mg base W "field_in" 8 1 sp_field_in := by
  have sc := sc_field_in
  refine ⟨f, fd, ["term"], fn_dC F sc (wb := w_field_in) (fun A outer s H E hr => ?_) rd, hm, F.old.kp, F.old.bindsN fun _ _ _ _ _ _ us hl => match us, hl with | [_], _ => rfl⟩
  have hu1 := hu_of hr
  exact (ds_cons (ds_asgD (i := 1) (j := 2) rfl sc.nd rfl rfl (by first | exact Or.inl rfl | exact Or.inr rfl) (by first | exact Or.inl rfl | exact Or.inr rfl) (de_cal C_paths_in (hr.mono (by decide)) (by rfl) (db_cons (de_var 0) db_nil)))
    (ds_cons (ds_for PassesOwn.never rfl (di_seq (DF.de (df_sortK LW TB rfl (hr.mono (by decide)) rfl (by rfl) T.n_sorted (de_var 1) (fun _ _ _ _ => by rfl)))) (dg_name (i := 3) sc.nd rfl (by first | exact Or.inl rfl | exact Or.inr rfl)) (ds_cons (ds_set (i := 4) sc.nd rfl (by first | exact Or.inl rfl | exact Or.inr rfl) (de_cal C_term_at (hr.mono (by decide)) (by rfl) (db_cons (de_var 0) (db_cons (de_var 3) db_nil))))
    (ds_cons (ds_set (i := 5) sc.nd rfl (by first | exact Or.inl rfl | exact Or.inr rfl) (de_cal C_by_word (hr.mono (by decide)) (by rfl) (db_cons (de_var 4) (db_cons (DF.de (df_lc (own := [("place", 6)]) rfl sc.nd (di_seq (de_cal C_places_in (hr.mono (by decide)) (by rfl) (db_cons (de_var 4) db_nil))) (blkOk_by (sc := defScope s_field_in) (own := [("place", 6)]) (N := N_field_in) (by decide +kernel)) (fun _ _ _ _ _ => (dg_name (i := 6) sc.nd rfl (by first | exact Or.inl rfl | exact Or.inr rfl))) (fun _ _ _ _ _ => dts_nil) (fun _ _ _ _ _ => (de_dget 2 hu1 (de_bin od_addT (de_var 3) (de_tup (da_cons (de_var 6) da_nil))) (fun _ _ => rfl))))) db_nil))))
    (ds_cons (ds_if (dt_not (dt_val (de_cal C_is_good (hr.mono (by decide)) (by rfl) (db_cons (de_var 5) db_nil)))) (ds_one ds_never) ds_nil)
    (ds_one (ds_dput 2 hu1 (de_var 3) (de_var 5)))))))
    (ds_one (ds_ret (de_dget 2 hu1 (de_tup da_nil) (fun _ _ => rfl))))))
theorem ok_need_term (T : Tx w K mg) {f : Addr} {fd : FuncData} (F : FnP K "need_term" s_need_term f fd) (hm : mg "need_term" = some (.ref f)) (C_field_in : Cal P w K mg base W "field_in" 8 1 sp_field_in) (rd : ∀ bs Q, sp_need_term bs Q → w_need_term { nx := fun _ => Q .none, rt := Q } (bs ++ List.replicate (N_need_term.length - bs.length) .no)) : Cal P w K mg base W "need_term" 9 1 sp_need_term := by
  have sc := sc_need_term
  refine ⟨f, fd, ["thing"], fn_d F sc (wb := w_need_term) (fun cdv A outer s H E hr => ?_) rd, hm, F.kp, F.bindsN fun _ _ _ _ _ _ us hl => match us, hl with | [_], _ => rfl⟩
  exact (ds_cons (ds_expr (de_cal C_field_in (hr.mono (by decide)) (by rfl) (db_cons (de_var 0) db_nil)))
    (ds_one (ds_ret (de_var 0))))
theorem ok_field_of (T : Tx w K mg) {f : Addr} {fd : FuncData} (F : FnP K "field_of" s_field_of f fd) (hm : mg "field_of" = some (.ref f)) (C_field_in : Cal P w K mg base W "field_in" 8 1 sp_field_in) (rd : ∀ bs Q, sp_field_of bs Q → w_field_of { nx := fun _ => Q .none, rt := Q } (bs ++ List.replicate (N_field_of.length - bs.length) .no)) : Cal P w K mg base W "field_of" 9 1 sp_field_of := by
  have sc := sc_field_of
  refine ⟨f, fd, ["term"], fn_d F sc (wb := w_field_of) (fun cdv A outer s H E hr => ?_) rd, hm, F.kp, F.bindsN fun _ _ _ _ _ _ us hl => match us, hl with | [_], _ => rfl⟩
  exact (ds_one (ds_ret (de_cal C_field_in (hr.mono (by decide)) (by rfl) (db_cons (de_var 0) db_nil))))
theorem ok_kids_of (T : Tx w K mg) {f : Addr} {fd : FuncData} (F : FnP K "kids_of" s_kids_of f fd) (hm : mg "kids_of" = some (.ref f)) (C_need_term : Cal P w K mg base W "need_term" 9 1 sp_need_term) (C_places_in : Cal P w K mg base W "places_in" 1 1 sp_places_in) (rd : ∀ bs Q, sp_kids_of bs Q → w_kids_of { nx := fun _ => Q .none, rt := Q } (bs ++ List.replicate (N_kids_of.length - bs.length) .no)) : Cal P w K mg base W "kids_of" 10 1 sp_kids_of := by
  have sc := sc_kids_of
  refine ⟨f, fd, ["term"], fn_d F sc (wb := w_kids_of) (fun cdv A outer s H E hr => ?_) rd, hm, F.kp, F.bindsN fun _ _ _ _ _ _ us hl => match us, hl with | [_], _ => rfl⟩
  exact (ds_cons (ds_expr (de_cal C_need_term (hr.mono (by decide)) (by rfl) (db_cons (de_var 0) db_nil)))
    (ds_one (ds_ret (de_callT cp_tuple (by rfl) T.n_tuple PyProof.Rows.boot_tuple (dp_cons (DE.pk (DF.de (df_lc (own := [("place", 1)]) rfl sc.nd (di_seq (de_cal C_places_in (hr.mono (by decide)) (by rfl) (db_cons (de_var 0) db_nil))) (blkOk_by (sc := defScope s_kids_of) (own := [("place", 1)]) (N := N_kids_of) (by decide +kernel)) (fun _ _ _ _ _ => (dg_name (i := 1) sc.nd rfl (by first | exact Or.inl rfl | exact Or.inr rfl))) (fun _ _ _ _ _ => dts_nil) (fun _ _ _ _ _ => (de_ix (DE.pk (de_var 0)) (de_var 1) (fun _ _ => rfl)))))) dp_nil)))))
end Qp
set_option maxHeartbeats 2000000
namespace Qp
open PySem PySem.Spec PyProof.Rows L2 Qd
def farL (A B : Fld) (b : Bool) : List (Nat × Nat) := if b then (List.range A.n).flatMap fun i => (List.range B.n).map fun j => (i, j + A.n) else []
def laidL (A B : Fld) (b : Bool) : List (Nat × Nat) := tiesL A.n A.lt ++ (tiesL B.n B.lt).map (fun x => (x.1 + A.n, x.2 + A.n)) ++ farL A B b
theorem mem_far {A B : Fld} {b : Bool} {x : Nat × Nat} : x ∈ farL A B b ↔ b = true ∧ x.1 < A.n ∧ A.n ≤ x.2 ∧ x.2 < A.n + B.n := by
  unfold farL
  cases b
  · simp
  · simp only [if_true, List.mem_flatMap, List.mem_map, List.mem_range, true_and]
    constructor
    · rintro ⟨i, hi, j, hj, rfl⟩
      refine ⟨hi, ?_, ?_⟩ <;> show _ <;> simp only [] <;> omega
    · rintro ⟨h1, h2, h3⟩
      exact ⟨x.1, h1, x.2 - A.n, by omega, by rw [Nat.sub_add_cancel h2]⟩
theorem mem_shift {B : Fld} {n : Nat} {x : Nat × Nat} : x ∈ (tiesL B.n B.lt).map (fun x => (x.1 + n, x.2 + n)) ↔ n ≤ x.1 ∧ n ≤ x.2 ∧ x.1 < n + B.n ∧ x.2 < n + B.n ∧ B.lt (x.1 - n) (x.2 - n) = true := by
  rw [List.mem_map]
  constructor
  · rintro ⟨y, hy, rfl⟩
    obtain ⟨h1, h2, h3⟩ := mem_ties.mp hy
    refine ⟨Nat.le_add_left _ _, Nat.le_add_left _ _, by simp only []; omega, by simp only []; omega, ?_⟩
    simp only [Nat.add_sub_cancel]
    exact h3
  · rintro ⟨h1, h2, h3, h4, h5⟩
    exact ⟨(x.1 - n, x.2 - n), mem_ties.mpr ⟨by simp only []; omega, by simp only []; omega, h5⟩, by simp only []; rw [Nat.sub_add_cancel h1, Nat.sub_add_cancel h2]⟩
theorem laid_mem {A B : Fld} {b : Bool} (x : Nat × Nat) : x ∈ laidL A B b ↔ x ∈ tiesL (A.n + B.n) (relU A B b) := by
  unfold laidL
  rw [List.mem_append, List.mem_append, mem_far, mem_shift, mem_ties, mem_ties]
  unfold relU
  by_cases h1 : x.1 < A.n
  · rw [if_pos h1]
    by_cases h2 : x.2 < A.n
    · rw [if_pos h2]
      constructor
      · rintro ((⟨_, _, h⟩ | ⟨h, _⟩) | ⟨_, _, h, _⟩)
        · exact ⟨by omega, by omega, h⟩
        · omega
        · omega
      · rintro ⟨_, _, h⟩
        exact .inl (.inl ⟨h1, h2, h⟩)
    · rw [if_neg h2, Bool.and_eq_true, decide_eq_true_eq]
      constructor
      · rintro ((⟨_, h, _⟩ | ⟨h, _⟩) | ⟨h, _, _, h'⟩)
        · omega
        · omega
        · exact ⟨by omega, by omega, h, h'⟩
      · rintro ⟨_, h, h', _⟩
        exact .inr ⟨h', h1, by omega, h⟩
  · rw [if_neg h1]
    by_cases h2 : x.2 < A.n
    · rw [if_pos h2]
      constructor
      · rintro ((⟨h, _⟩ | ⟨_, h, _⟩) | ⟨_, h, _⟩) <;> omega
      · rintro ⟨_, _, h⟩
        cases h
    · rw [if_neg h2]
      constructor
      · rintro ((⟨h, _⟩ | ⟨_, _, h3, h4, h5⟩) | ⟨_, h, _⟩)
        · omega
        · exact ⟨h3, h4, h5⟩
        · omega
      · rintro ⟨h3, h4, h5⟩
        exact .inl (.inr ⟨by omega, by omega, h3, h4, h5⟩)
theorem nodup_map {α β : Type} {f : α → β} (inj : ∀ a b, f a = f b → a = b) {l : List α} (h : l.Nodup) : (l.map f).Nodup := by
  unfold List.Nodup at h ⊢
  rw [List.pairwise_map]
  exact h.imp fun h z => h (inj _ _ z)
theorem far_nodup (A B : Fld) (b : Bool) : (farL A B b).Nodup := by
  unfold farL
  cases b
  · exact List.nodup_nil
  · rw [if_pos rfl]
    unfold List.Nodup
    rw [List.pairwise_flatMap]
    refine ⟨fun i _ => ?_, ?_⟩
    · rw [List.pairwise_map]
      exact List.pairwise_lt_range.imp fun h z => by
        have := congrArg Prod.snd z
        simp only [] at this
        omega
    · refine List.pairwise_lt_range.imp fun {a b} h x hx y hy z => ?_
      obtain ⟨j, _, rfl⟩ := List.mem_map.mp hx
      obtain ⟨k, _, rfl⟩ := List.mem_map.mp hy
      have := congrArg Prod.fst z
      simp only [] at this
      omega
theorem laid_nodup (A B : Fld) (b : Bool) : (laidL A B b).Nodup := by
  unfold laidL
  refine List.nodup_append.mpr ⟨List.nodup_append.mpr ⟨ties_nodup _ _, nodup_map (fun x y e => ?_) (ties_nodup _ _), fun x hx y hy e => ?_⟩, far_nodup A B b, fun x hx y hy e => ?_⟩
  · have h1 := congrArg Prod.fst e
    have h2 := congrArg Prod.snd e
    simp only [] at h1 h2
    exact Prod.ext (by omega) (by omega)
  · subst e
    have h1 := mem_ties.mp hx
    have h2 := mem_shift.mp hy
    omega
  · subst e
    have h2 := mem_far.mp hy
    rcases List.mem_append.mp hx with hx | hx
    · have h1 := mem_ties.mp hx
      omega
    · have h1 := mem_shift.mp hx
      omega
theorem cat_v {wa wb : WE} {ρ : En} {xs ys : List PyData} (ha : Val wa ρ (.list xs)) (hb : Val wb ρ (.list ys)) (hl : xs.length + ys.length ≤ 1000) : ValP (wCat wa wb) ρ (xs ++ ys) := fun Q q => ha _ (hb _ ⟨by rw [sizeLine_eq]; omega, q⟩)
theorem cons_v {we : WE} {w : WP} {ρ : En} {d : PyData} {ds : List PyData} (h : Val we ρ d) (k : ValP w ρ ds) : ValP (wCons we w) ρ (d :: ds) := fun Q q => h _ (k _ q)
theorem nil_v {ρ : En} : ValP wNil ρ [] := fun Q q => q
theorem var_v {i : Nat} {ρ : En} {d : PyData} (h : ρ.getD i .no = .val d) : Val (wVar i) ρ d := fun Q q => by
  unfold wVar
  rw [h]
  exact q
theorem ret_v {we : WE} {E : WEnds} {ρ : En} {d : PyData} (h : Val we ρ d) (q : E.rt d) : wRet we E ρ := h _ q
theorem seq_if {t : WT} {w w2 rest : WS} {E : WEnds} {ρ : En} {b : Bool} (h : Tst t ρ b) (k1 : b = true → w { E with nx := rest E } ρ) (k2 : b = false → w2 { E with nx := rest E } ρ) : wSeq (wIfS t w w2) rest E ρ := if_v h k1 k2
theorem add_v {wa wb : WE} {ρ : En} {a b : Nat} (ha : Val wa ρ (nt a)) (hb : Val wb ρ (nt b)) : Val (wOp rAddI wa wb) ρ (nt (a + b)) := fun Q q => ha _ (hb _ ⟨trivial, q⟩)
theorem addT_v {wa wb : WE} {ρ : En} {xs ys : List PyData} (ha : Val wa ρ (.tuple xs)) (hb : Val wb ρ (.tuple ys)) (hl : xs.length + ys.length ≤ 2000) : Val (wOp rAddT wa wb) ρ (.tuple (xs ++ ys)) := fun Q q => ha _ (hb _ ⟨by rw [sizeLine_eq]; omega, q⟩)
theorem pair_v {wa wb : WE} {ρ : En} {a b : PyData} (ha : Val wa ρ a) (hb : Val wb ρ b) : Val (wTup (wCons wa (wCons wb wNil))) ρ (.tuple [a, b]) := tup_v (cons_v ha (cons_v hb nil_v)) (by show 2 ≤ 1000; decide)
theorem trip_v {wa wb wc : WE} {ρ : En} {a b c : PyData} (ha : Val wa ρ a) (hb : Val wb ρ b) (hc : Val wc ρ c) : Val (wTup (wCons wa (wCons wb (wCons wc wNil)))) ρ (.tuple [a, b, c]) := tup_v (cons_v ha (cons_v hb (cons_v hc nil_v))) (by show 3 ≤ 1000; decide)
/-- the parts of a field -/
theorem fld0 {we : WE} {ρ : En} {F : Fld} (h : Val we ρ (eF F)) : Val (wOp Qd.rIxD we (wC (.int 0))) ρ (nt F.n) := fun Q q => h _ ⟨_, rfl, q⟩
theorem fld1 {we : WE} {ρ : En} {F : Fld} (h : Val we ρ (eF F)) : Val (wOp Qd.rIxD we (wC (.int 1))) ρ (.tuple ((tiesL F.n F.lt).map npr)) := fun Q q => h _ ⟨_, rfl, q⟩
theorem fld2 {we : WE} {ρ : En} {F : Fld} (h : Val we ρ (eF F)) : Val (wOp Qd.rIxD we (wC (.int 2))) ρ (.tuple (F.s.map ipr)) := fun Q q => h _ ⟨_, rfl, q⟩
theorem lst1 {we : WE} {ρ : En} {xs : List PyData} (h : Val we ρ (.tuple xs)) : Val (wFz (wCallF rListD (wCons we wNil))) ρ (.list xs) := fun Q q => h _ q
theorem tup1 {we : WE} {ρ : En} {xs : List PyData} (h : Val we ρ (.list xs)) : Val (wCallB rTupD (wCons we wNil)) ρ (.tuple xs) := fun Q q => h _ q
theorem rng_v {we : WE} {ρ : En} {n : Nat} (h : Val we ρ (nt n)) (hn : n ≤ 1000) : ValP (wRng we) ρ ((List.range n).map fun (i : Nat) => .int (i : Int)) := fun Q q => h _ ⟨⟨by omega, by omega⟩, q⟩
theorem rd_laid : ∀ bs Q, sp_laid bs Q → w_laid { nx := fun _ => Q .none, rt := Q } (bs ++ List.replicate (N_laid.length - bs.length) .no) := by
  rintro bs Q ⟨A, B, b, ha, hb, hsa, hsb, rfl, q⟩
  have l1 := ties_100 A.lt ha
  have l2 := ties_100 B.lt hb
  refine seq_set (d := nt A.n) (fld0 (var_v rfl)) ?_
  let e1 : En := [.val (eF A), .val (eF B), .val (.bool b), .val (nt A.n), .no, .no, .no]
  have hc := valP_lc (ρ := e1) (vs := [5, 6]) (wl := wSeqI (wOp Qd.rIxD (wVar 1) (wC (.int 1)))) (g := wgTup 2 (wgCons (wgName 5) (wgCons (wgName 6) wgNil))) (te := wTup (wCons (wOp rAddI (wVar 5) (wVar 3)) (wCons (wOp rAddI (wVar 6) (wVar 3)) wNil)))
    npr (fun x => npr (x.1 + A.n, x.2 + A.n)) (tiesL B.n B.lt) (by omega) (seqI_v rfl (fld1 (F := B) (var_v rfl))) (fun x hx Q q => g2_v (pair_v (add_v (var_v rfl) (var_v rfl)) (add_v (var_v rfl) (var_v rfl)) _ q))
  rw [show ((tiesL B.n B.lt).map fun x => npr (x.1 + A.n, x.2 + A.n)) = ((tiesL B.n B.lt).map fun x => (x.1 + A.n, x.2 + A.n)).map npr by rw [List.map_map]; rfl] at hc
  refine seq_setO (ds := (tiesL A.n A.lt ++ (tiesL B.n B.lt).map fun x => (x.1 + A.n, x.2 + A.n)).map npr) ?_ ?_
  · rw [List.map_append]
    exact cat_v (lst1 (fld1 (F := A) (var_v rfl))) (val_fz hc) (by rw [List.length_map, List.length_map, List.length_map]; omega)
  have fin : ∀ (b5 b6 : Bd) (L : List (Nat × Nat)), L = laidL A B b → wRet (wTup (wCons (wOp rAddI (wVar 3) (wOp Qd.rIxD (wVar 1) (wC (.int 0)))) (wCons (wCallB rTupD (wCons (wFz (wCallF rSortT (wCons (wPk 4) wNil))) wNil)) (wCons (wOp rAddT (wOp Qd.rIxD (wVar 0) (wC (.int 2))) (wOp Qd.rIxD (wVar 1) (wC (.int 2)))) wNil)))) { nx := fun _ => Q .none, rt := Q } [.val (eF A), .val (eF B), .val (.bool b), .val (nt A.n), .lst (L.map npr), b5, b6] := fun b5 b6 L e => by
    subst e
    refine ret_v (trip_v (a := nt (A.n + B.n)) (b := .tuple ((tiesL (A.n + B.n) (relU A B b)).map npr)) (c := .tuple (A.s.map ipr ++ B.s.map ipr)) (add_v (var_v rfl) (fld0 (var_v rfl))) (tup1 (val_fz fun Q q => sort_pairs (laid_nodup A B b) laid_mem q)) (addT_v (fld2 (var_v rfl)) (fld2 (var_v rfl)) (by rw [List.length_map, List.length_map]; omega))) ?_
    rw [← List.map_append]
    exact q
  cases b with
  | false =>
    refine seq_if (b := false) (fun Q q => q) (fun z => (by cases z)) (fun _ => ?_)
    exact fin _ _ _ (by unfold laidL farL; simp)
  | true =>
    refine seq_if (b := true) (fun Q q => q) (fun _ => ?_) (fun z => (by cases z))
    let P0 := tiesL A.n A.lt ++ (tiesL B.n B.lt).map fun x => (x.1 + A.n, x.2 + A.n)
    show wFor _ _ _ _ [.val (eF A), .val (eF B), .val (.bool true), .val (nt A.n), .lst (P0.map npr), .no, .no]
    have hP : P0.length ≤ 200 := by
      rw [List.length_append, List.length_map]
      omega
    refine for_v (rng_v (n := A.n) (var_v rfl) (by omega)) ?_
    let row : Nat → List (Nat × Nat) := fun i => (List.range B.n).map fun j => (i, j + A.n)
    have hrow : ∀ i, (row i).length ≤ B.n := fun i => by rw [List.length_map, List.length_range]; exact Nat.le_refl _
    refine for_pre (all := List.range A.n) (fun (i : Nat) => PyData.int (i : Int)) (fun pre ρ => ∃ b5 b6, ρ = [.val (eF A), .val (eF B), .val (.bool true), .val (nt A.n), .lst ((P0 ++ pre.flatMap row).map npr), b5, b6]) ?_ ?_ (pre := []) rfl ⟨.no, .no, by simp⟩
    · rintro pre i post ρ E1 he ⟨b5, b6, rfl⟩ hrt hnx -
      have hpl : pre.length < A.n := by
        have := congrArg List.length he
        rw [List.length_append, List.length_cons, List.length_range] at this
        omega
      have hfl : (pre.flatMap row).length ≤ pre.length * B.n := flat_len fun a _ => hrow a
      have hfl' : pre.length * B.n ≤ 10 * 10 := Nat.mul_le_mul (by omega) (by omega)
      refine g1_v ?_
      show wExt _ _ E1 [.val (eF A), .val (eF B), .val (.bool true), .val (nt A.n), .lst ((P0 ++ pre.flatMap row).map npr), .val (nt i), b6]
      refine ext_v (ds := (P0 ++ pre.flatMap row).map npr) (es := (row i).map npr) rfl ?_ ?_ (hnx _ ⟨.val (nt i), b6, ?_⟩)
      · rw [show (row i).map npr = (List.range B.n).map fun j => npr (i, j + A.n) by rw [List.map_map]; rfl]
        exact valP_lc (fun (j : Nat) => PyData.int (j : Int)) (fun j => npr (i, j + A.n)) _ (by rw [List.length_range]; omega) (rng_v (fld0 (F := B) (var_v rfl)) (by omega)) (fun j hj Q q => g1_v (pair_v (var_v rfl) (add_v (var_v rfl) (var_v rfl)) _ q))
      · have := hrow i
        rw [List.length_map, List.length_map, List.length_append]
        omega
      · rw [List.flatMap_append, List.flatMap_cons, List.flatMap_nil, List.append_nil, ← List.append_assoc, List.map_append (l₂ := row i)]
        rfl
    · rintro ρ ⟨b5, b6, rfl⟩
      exact fin b5 b6 _ rfl
end Qp
set_option maxHeartbeats 2000000
namespace Qp
open PySem PySem.Spec PyProof.Rows L2 Qd
section
variable {wa wb : WE} {ρ : En} {a b : Int} {c : Bool}
theorem lt_b (ha : Val wa ρ (.int a)) (hb : Val wb ρ (.int b)) (h : decide (a < b) = c) : Tst (wTst (wOp rLtI wa wb)) ρ c := fun Q q => ha _ (hb _ ⟨trivial, by rw [← h] at q; exact q⟩)
theorem le_b (ha : Val wa ρ (.int a)) (hb : Val wb ρ (.int b)) (h : decide (a ≤ b) = c) : Tst (wTst (wOp rLeI wa wb)) ρ c := fun Q q => ha _ (hb _ ⟨trivial, by rw [← h] at q; exact q⟩)
theorem gt_b (ha : Val wa ρ (.int a)) (hb : Val wb ρ (.int b)) (h : decide (b < a) = c) : Tst (wTst (wOp rGtI wa wb)) ρ c := fun Q q => ha _ (hb _ ⟨trivial, by rw [← h] at q; exact q⟩)
theorem ge_b (ha : Val wa ρ (.int a)) (hb : Val wb ρ (.int b)) (h : decide (b ≤ a) = c) : Tst (wTst (wOp rGeI wa wb)) ρ c := fun Q q => ha _ (hb _ ⟨trivial, by rw [← h] at q; exact q⟩)
theorem eq_b (ha : Val wa ρ (.int a)) (hb : Val wb ρ (.int b)) (h : decide (a = b) = c) : Tst (wTst (wOp rEqI wa wb)) ρ c := fun Q q => ha _ (hb _ ⟨trivial, by rw [← h] at q; exact q⟩)
theorem ne_b (ha : Val wa ρ (.int a)) (hb : Val wb ρ (.int b)) (h : (!decide (a = b)) = c) : Tst (wTst (wOp rNeI wa wb)) ρ c := fun Q q => ha _ (hb _ ⟨trivial, by rw [← h] at q; exact q⟩)
theorem len_v {we : WE} {d : PyData} {ds : List PyData} (hi : itemsD d = some ds) (h : Val we ρ d) : Val (wCallB Qd.rLen (wCons we wNil)) ρ (.int (ds.length : Int)) := fun Q q => h _ (by
  cases d <;> cases hi <;> exact q)
theorem c_v {d : PyData} : Val (wC d) ρ d := fun Q q => q
end
theorem eqS_b {wa wb : WE} {ρ : En} {a b : Str} {c : Bool} (ha : Val wa ρ (.str a)) (hb : Val wb ρ (.str b)) (h : decide (a = b) = c) : Tst (wTst (wOp rEqS wa wb)) ρ c := fun Q q => ha _ (hb _ (by rw [← h] at q; exact q))
theorem inG_b {wa : WE} {ρ : En} {a : Str} {zs : List Str} {c : Bool} (ha : Val wa ρ (.str a)) (h : zs.contains a = c) : Tst (wTst (wUn (rInG false zs) wa)) ρ c := fun Q q => ha _ (by rw [← h] at q; exact q)
theorem word_v {we : WE} {ρ : En} {t : Tm} (h : Val we ρ (eT t)) : Val (wOp Qd.rIxD we (wC (.int 0))) ρ (.str (wordT t)) := fun Q q => h _ (by
  rw [eT_eq]
  exact ⟨_, atI_nat (.str (wordT t) :: tailT t) 0 (Nat.zero_lt_succ _), q⟩)
theorem call1_v {sp : SpB} {wa : WE} {ρ : En} {d : PyData} {Q : PyData → Prop} (ha : Val wa ρ d) (h : sp [.val d] Q) : wCall sp 1 (wB wa wB0) ρ Q := ha _ ⟨rfl, h⟩
theorem call2_v {sp : SpB} {wa wb : WE} {ρ : En} {d e : PyData} {Q : PyData → Prop} (ha : Val wa ρ d) (hb : Val wb ρ e) (h : sp [.val d, .val e] Q) : wCall sp 2 (wB wa (wB wb wB0)) ρ Q := ha _ (hb _ ⟨rfl, h⟩)
theorem call3_v {sp : SpB} {wa wb wc : WE} {ρ : En} {d e f : PyData} {Q : PyData → Prop} (ha : Val wa ρ d) (hb : Val wb ρ e) (hc : Val wc ρ f) (h : sp [.val d, .val e, .val f] Q) : wCall sp 3 (wB wa (wB wb (wB wc wB0))) ρ Q := ha _ (hb _ (hc _ ⟨rfl, h⟩))
theorem rd_row_of : ∀ bs Q, sp_row_of bs Q → w_row_of { nx := fun _ => Q .none, rt := Q } (bs ++ List.replicate (N_row_of.length - bs.length) .no) := by
  rintro bs Q ⟨A, k, F, h, h1, h2, e, rfl, q⟩
  refine seq_set (d := eF A) (var_v rfl) ?_
  refine seq_for (ds := (List.range (k - 1)).map fun (i : Nat) => PyData.int (i : Int)) (fun Q q => ⟨trivial, ⟨by omega, by omega⟩, ?_⟩) ?_
  · rw [show ((k : Int) - 1).toNat = k - 1 by omega, rng_map]
    exact q
  refine for_pre (all := List.range (k - 1)) (fun (i : Nat) => PyData.int (i : Int)) (fun pre ρ => ∃ G b3, ρ = [.val (eF A), .val (nt k), .val (eF G), b3] ∧ WF G ∧ rowN A (k - 1 - pre.length) (some G) = some F) ?_ ?_ (pre := []) rfl ⟨A, .no, rfl, h, e⟩
  · rintro pre i post ρ E1 he ⟨G, b3, rfl, hG, eG⟩ hrt hnx -
    have hpl : pre.length < k - 1 := by
      have := congrArg List.length he
      rw [List.length_append, List.length_cons, List.length_range] at this
      omega
    rw [show k - 1 - pre.length = (k - 1 - (pre.length + 1)) + 1 by omega] at eG
    replace eG : rowN A (k - 1 - (pre.length + 1)) (two G A true) = some F := eG
    cases z : two G A true with
    | none => rw [z, row_none] at eG; cases eG
    | some G' =>
      rw [z] at eG
      obtain ⟨rfl, hG'⟩ := two_laid hG h z
      have hg := hG.n
      refine g1_v ?_
      show wIfS _ _ _ E1 [.val (eF A), .val (nt k), .val (eF G), .val (nt i)]
      refine if_t (le_b (fld0 (F := G) (var_v rfl)) c_v (decide_eq_true (by omega))) ?_
      · refine ⟨rfl, G, A, true, hG.n, h.n, by have := hG.s; omega, by have := h.s; have := h.n; omega, rfl, hnx _ ⟨_, _, rfl, hG', ?_⟩⟩
        rw [List.length_append, List.length_singleton]
        exact eG
  · rintro ρ ⟨G, b3, rfl, hG, eG⟩
    rw [List.length_range, Nat.sub_self] at eG
    cases eG
    exact q
theorem memR_add {A : Fld} (h : WF A) (i j : Nat) : memR (tiesL A.n A.lt ++ [(i, j)]) = addR A.lt i j := rel_ext fun a b => by
  rw [memR_iff, List.mem_append, List.mem_singleton, Prod.mk.injEq]
  unfold addR
  rw [Bool.or_eq_true, Bool.and_eq_true, decide_eq_true_eq, decide_eq_true_eq, mem_ties]
  exact ⟨fun z => z.imp (fun z => z.2.2) _root_.id, fun z => z.imp (fun z => ⟨(h.rng a b z).1, (h.rng a b z).2, z⟩) _root_.id⟩
theorem star_v {we : WE} {w : WP} {ρ : En} {d : PyData} {es ds : List PyData} (hi : itemsD d = some es) (h : Val we ρ d) (k : ValP w ρ ds) : ValP (wStar we w) ρ (es ++ ds) := fun Q q => h _ (by
  show (match itemsD d with
    | some es => w ρ fun ds => Q (es ++ ds)
    | none => False)
  rw [hi]
  exact k _ q)
theorem rd_tied_of : ∀ bs Q, sp_tied_of bs Q → w_tied_of { nx := fun _ => Q .none, rt := Q } (bs ++ List.replicate (N_tied_of.length - bs.length) .no) := by
  rintro bs Q ⟨A, i, j, F, h, e, rfl, q⟩
  obtain ⟨hi, hj, rfl⟩ := tied_eq h e
  have l1 := ties_45 h
  refine seq_f (ge_b (a := if (j : Int) > (i : Int) then j else i) (fun Q q => q) (fld0 (F := A) (var_v rfl)) (decide_eq_false (by split <;> omega))) ?_
  refine ret_v (trip_v (fld0 (F := A) (var_v rfl)) (b := .tuple ((tiesL A.n (clo A.n (memR (tiesL A.n A.lt ++ [(i, j)])))).map npr)) ?_ (fld2 (F := A) (var_v rfl))) ?_
  · intro Q q
    refine call2_v (fld0 (F := A) (var_v rfl)) (val_fz (lst_v (star_v (es := (tiesL A.n A.lt).map npr) (ds := [npr (i, j)]) rfl (fld1 (F := A) (var_v rfl)) (cons_v (pair_v (var_v rfl) (var_v rfl)) nil_v)) (by rw [List.length_append, List.length_map, List.length_singleton]; omega))) ⟨A.n, tiesL A.n A.lt ++ [(i, j)], _, h.n, fun x hx => ?_, by rw [List.length_append, List.length_singleton]; omega, .inr ?_, rfl, q⟩
    · rcases List.mem_append.mp hx with hx | hx
      · exact ⟨(mem_ties.mp hx).1, (mem_ties.mp hx).2.1⟩
      · rw [List.mem_singleton.mp hx]
        exact ⟨hi, hj⟩
    · rw [List.map_append]
      rfl
  · rw [memR_add h]
    exact q
theorem rd_is_good : ∀ bs Q, sp_is_good bs Q → w_is_good { nx := fun _ => Q .none, rt := Q } (bs ++ List.replicate (N_is_good.length - bs.length) .no) := by
  rintro bs Q ⟨F, h, rfl, q⟩
  have hn := h.n
  have hs := h.s
  have l1 := ties_45 h
  let e1 : En := [.val (eF F), .no, .no, .no]
  have t1 := val_all (ρ := e1) (vs := [1]) (wl := wSeqI (wOp Qd.rIxD (wVar 0) (wC (.int 2)))) (g := wgName 1) (te := wCall sp_is_seen 1 (wB (wVar 1) wB0)) ipr (fun _ => true) F.s (by omega) (seqI_v rfl (fld2 (var_v rfl))) (fun x hx Q q => ⟨rfl, x, h.ok x hx, rfl, q⟩)
  rw [all_true] at t1
  refine seq_f (or_f (fun Q q => q) (or_f (gt_b (fld0 (F := F) (var_v rfl)) c_v (decide_eq_false (by omega))) (not_s (val_tst t1)))) ?_
  have t2 := val_any (ρ := e1) (vs := [2, 3]) (wl := wSeqI (wOp Qd.rIxD (wVar 0) (wC (.int 1)))) (g := wgTup 2 (wgCons (wgName 2) (wgCons (wgName 3) wgNil))) (te := wOp rEqI (wVar 2) (wVar 3)) npr (fun _ => false) (tiesL F.n F.lt) (by omega) (seqI_v rfl (fld1 (var_v rfl))) (fun x hx Q q => g2_v ⟨trivial, (by
    obtain ⟨_, _, h3⟩ := mem_ties.mp hx
    have : x.1 ≠ x.2 := fun z => by rw [z, h.irr] at h3; cases h3
    show Q (.bool (decide ((x.1 : Int) = (x.2 : Int))))
    rw [decide_eq_false (by omega)]
    exact q)⟩)
  rw [show ((tiesL F.n F.lt).any fun _ => false) = false by rw [List.any_eq_false]; simp] at t2
  exact t2 _ q
theorem rd_need_term : ∀ bs Q, sp_need_term bs Q → w_need_term { nx := fun _ => Q .none, rt := Q } (bs ++ List.replicate (N_need_term.length - bs.length) .no) := by
  rintro bs Q ⟨t, F, h, rfl, q⟩
  exact ⟨rfl, t, F, h, rfl, q⟩
theorem rd_field_of : ∀ bs Q, sp_field_of bs Q → w_field_of { nx := fun _ => Q .none, rt := Q } (bs ++ List.replicate (N_field_of.length - bs.length) .no) := by
  rintro bs Q ⟨t, F, h, rfl, q⟩
  exact ⟨rfl, t, F, h, rfl, q⟩
def kidD : Tm → Nat → PyData
  | .dbl _ a b, k => if k = 1 then eT a else eT b
  | .one _ a, _ => eT a
  | _, _ => .none
theorem kid_ix {wa wb : WE} {ρ : En} {t : Tm} {k : Nat} (hk : k ∈ placesL t) (ha : Val wa ρ (eT t)) (hb : Val wb ρ (nt k)) : Val (wOp Qd.rIxD wa wb) ρ (kidD t k) := by
  cases t with
  | thing _ _ => nomatch hk
  | nil => nomatch hk
  | dbl u a b =>
    rcases List.mem_cons.mp hk with rfl | hk
    · exact fun Q q => ha _ (hb _ ⟨_, rfl, q⟩)
    · rcases List.mem_cons.mp hk with rfl | hk
      · exact fun Q q => ha _ (hb _ ⟨_, rfl, q⟩)
      · nomatch hk
  | one o a =>
    rcases List.mem_cons.mp hk with rfl | hk
    · exact fun Q q => ha _ (hb _ ⟨_, atI_nat (.str _ :: eT a :: opA _) 1 (Nat.succ_lt_succ (Nat.zero_lt_succ _)), q⟩)
    · nomatch hk
theorem kidD_map (t : Tm) : (placesL t).map (kidD t) = (kids t).map eT := by cases t <;> rfl
theorem places_le (t : Tm) : (placesL t).length ≤ 2 := by cases t <;> simp [placesL]
theorem rd_kids_of : ∀ bs Q, sp_kids_of bs Q → w_kids_of { nx := fun _ => Q .none, rt := Q } (bs ++ List.replicate (N_kids_of.length - bs.length) .no) := by
  rintro bs Q ⟨t, F, h, rfl, q⟩
  refine ⟨rfl, t, F, h, rfl, ?_⟩
  have hl := places_le t
  have hc := valP_lc (ρ := [.val (eT t), .no]) (vs := [1]) (wl := wSeqI (wCall sp_places_in 1 (wB (wVar 0) wB0))) (g := wgName 1) (te := wOp Qd.rIxD (wVar 0) (wVar 1)) nt (kidD t) (placesL t) (by omega) (seqI_v (d := nts (placesL t)) rfl (fun Q q => ⟨rfl, t, rfl, q⟩)) (fun k hk Q q => g1_v (kid_ix (t := t) hk (var_v rfl) (var_v rfl) _ q))
  rw [kidD_map] at hc
  exact tup1 (val_fz hc) _ q
theorem rd_by_word : ∀ bs Q, sp_by_word bs Q → w_by_word { nx := fun _ => Q .none, rt := Q } (bs ++ List.replicate (N_by_word.length - bs.length) .no) := by
  rintro bs Q ⟨t, Fs, F, ho, hk, hw, e, rfl, q⟩
  cases t with
  | thing w h =>
    cases e
    refine seq_t (fun Q q => ⟨_, rfl, q⟩) ?_
    refine ret_v (trip_v (a := .int 1) (fun Q q => q) (b := .tuple []) (tup_v nil_v (Nat.zero_le _)) (tup_v (cons_v (d := ipr (w, h)) (fun Q q => q) nil_v) (by show 1 ≤ 1000; decide))) q
  | nil =>
    cases e
    refine seq_f (fun Q q => ⟨_, rfl, q⟩) (seq_t (fun Q q => ⟨_, rfl, q⟩) ?_)
    refine ret_v (trip_v (a := .int 0) (fun Q q => q) (b := .tuple []) (tup_v nil_v (Nat.zero_le _)) (tup_v nil_v (Nat.zero_le _))) q
  | dbl u a b =>
    rcases Fs with _ | ⟨A, _ | ⟨B, _ | ⟨C, Fs⟩⟩⟩
    · simp [kids] at hk
    · simp [kids] at hk
    · injection hk with h1 h2
      injection h2 with h2 _
      replace e : ((den a).bind fun A => (den b).bind fun B => two A B u) = some F := e
      rw [h1, h2] at e
      have hA := hw A (by simp)
      have hB := hw B (by simp)
      obtain ⟨rfl, hF⟩ := two_laid hA hB e
      have h0 : ∀ ρ : En, ρ.getD 0 .no = .val (eT (.dbl u a b)) → Val (wOp Qd.rIxD (wVar 0) (wC (.int 0))) ρ (.str (wordT (.dbl u a b))) := fun ρ z => word_v (var_v z)
      refine seq_f (eqS_b (h0 _ rfl) c_v (by cases u <;> rfl)) (seq_f (eqS_b (h0 _ rfl) c_v (by cases u <;> rfl)) (seq_t (inG_b (h0 _ rfl) (by cases u <;> rfl)) ?_))
      refine ⟨_, rfl, _, rfl, _, rfl, ?_⟩
      have hu : decide ((if u then "below" else "beside" : Str) = "below") = u := by cases u <;> rfl
      have la := hA.n
      have lb := hB.n
      have sa := hA.s
      have sb := hB.s
      refine ⟨rfl, A, B, u, hA.n, hB.n, by omega, by omega, ?_, q⟩
      show [Bd.val (eF A), Bd.val (eF B), Bd.val (.bool (decide ((if u then "below" else "beside" : Str) = "below")))] = _
      rw [hu]
    · simp [kids] at hk
  | one o a =>
    rcases Fs with _ | ⟨A, _ | ⟨B, Fs⟩⟩
    · simp [kids] at hk
    · injection hk with h1 _
      replace e : ((den a).bind fun A => denO A o) = some F := e
      rw [h1] at e
      have h0 : ∀ ρ : En, ρ.getD 0 .no = .val (eT (.one o a)) → Val (wOp Qd.rIxD (wVar 0) (wC (.int 0))) ρ (.str (wordT (.one o a))) := fun ρ z => word_v (var_v z)
      refine seq_f (eqS_b (h0 _ rfl) c_v (by cases o <;> rfl)) (seq_f (eqS_b (h0 _ rfl) c_v (by cases o <;> rfl)) (seq_f (inG_b (h0 _ rfl) (by cases o <;> rfl)) ?_))
      exact ⟨_, rfl, rfl, o, a, A, F, hw A (by simp), ho, e, rfl, q⟩
    · simp [kids] at hk
end Qp
set_option maxHeartbeats 2000000
namespace Qp
open PySem PySem.Spec PyProof.Rows L2 Qd
/-- a dict by a comprehension, its keys all new -/
theorem dcL_v {α : Type} {g : WG} {tk te : WE} {ρ : En} {Q : List (Key × PyData) → Prop} (enc : α → PyData) (key : α → Nat) (f : Nat → PyData) :
    ∀ {xs : List α} {ks : List Nat}, (ks ++ xs.map key).Nodup → ks.length + xs.length ≤ 1000 → (∀ x ∈ xs, ∃ ρ', (∀ K : En → Prop, K ρ' → g (enc x) ρ K) ∧ Val tk ρ' (nt (key x)) ∧ Val te ρ' (f (key x))) →
    Q ((ks ++ xs.map key).map fun k => (keyN k, f k)) → wDcL g wYes tk te (xs.map enc) (ks.map fun k => (keyN k, f k)) ρ Q
  | [], ks, _, _, _, q => by
    rw [List.map_nil, List.append_nil] at q
    exact q
  | x :: xs, ks, nd, hl, h, q => by
    obtain ⟨ρ', h1, h2, h3⟩ := h x List.mem_cons_self
    rw [List.length_cons] at hl
    rw [List.map_cons]
    show g (enc x) ρ fun ρ' => tk ρ' fun y => te ρ' fun z => match keyD y with
      | some k => (ks.map fun k => (keyN k, f k)).length < sizeLine ∧ wDcL g wYes tk te (xs.map enc) (putD (ks.map fun k => (keyN k, f k)) k z) ρ Q
      | none => False
    refine h1 _ (h2 _ (h3 _ ⟨by rw [List.length_map, sizeLine_eq]; omega, ?_⟩))
    have e : ks ++ (x :: xs).map key = (ks ++ [key x]) ++ xs.map key := by rw [List.map_cons, List.append_assoc]; rfl
    rw [e] at nd q
    have nk : key x ∉ ks := fun z => (List.nodup_append.mp (List.nodup_append.mp nd).1).2.2 _ z _ (List.mem_singleton.mpr rfl) rfl
    show wDcL g wYes tk te (xs.map enc) (putD (ks.map fun k => (keyN k, f k)) (keyN (key x)) (f (key x))) ρ Q
    rw [putD_new keyN keyN_inj f (key x) _ ks nk]
    have := dcL_v enc key f (xs := xs) (ks := ks ++ [key x]) nd (by rw [List.length_append, List.length_singleton]; omega) (fun y hy => h y (List.mem_cons_of_mem _ hy)) q
    rw [List.map_append] at this
    exact this
theorem dGt_N {i : Nat} {wy : WE} {ρ : En} {f : Nat → PyData} {ks : List Nat} {k : Nat} (h : ρ.getD i .no = dKN f ks) (hy : Val wy ρ (nt k)) (hk : k ∈ ks) : Val (wDGt i wy) ρ (f k) := fun Q q => by
  show isDic (ρ.getD i .no) ∧ wy ρ fun y => atDic (ρ.getD i .no) y fun o => ∃ d, o = some d ∧ Q d
  rw [h]
  refine ⟨trivial, hy _ ?_⟩
  show ∃ d, valD (ks.map fun k => (keyN k, f k)) (keyN k) = some d ∧ Q d
  rw [valD_map keyN keyN_inj, if_pos hk]
  exact ⟨_, rfl, q⟩
theorem seq_dc {i : Nat} {wl : WP} {g : WG} {tk te : WE} {vs : List Nat} {rest : WS} {E : WEnds} {ρ : En} {α : Type} (enc : α → PyData) (key : α → Nat) (f : Nat → PyData) {xs : List α} (hw : ValP wl ρ (xs.map enc)) (nd : (xs.map key).Nodup) (hl : xs.length ≤ 1000)
    (h : ∀ x ∈ xs, ∃ ρ', (∀ K : En → Prop, K ρ' → g (enc x) (wipeR ρ vs) K) ∧ Val tk ρ' (nt (key x)) ∧ Val te ρ' (f (key x))) (k : rest E (ρ.set i (dKN f (xs.map key)))) : wSeq (wSetDc i wl g wYes tk te vs) rest E ρ :=
  hw _ (dcL_v enc key f (ks := []) (by rw [List.nil_append]; exact nd) (by rw [List.length_nil]; omega) h (by rw [List.nil_append]; exact k))
theorem covers_len {F : Fld} (h : WF F) {lot : List Nat} (ok : LotOk F.n lot) : (coversL F.lt lot).length ≤ 100 := by
  have h1 := lot_len ok
  have hn := h.n
  have : (coversL F.lt lot).length ≤ lot.length * lot.length := flat_len fun a _ => by rw [List.length_map]; exact List.length_filter_le _ _
  have : lot.length * lot.length ≤ 10 * 10 := Nat.mul_le_mul (by omega) (by omega)
  omega
theorem zip_fst {α : Type} {l : List α} {x : α × Nat} (h : x ∈ l.zipIdx) : x.1 ∈ l := by
  have := List.mem_map_of_mem (f := Prod.fst) h
  rwa [List.zipIdx_map_fst] at this
theorem ups_of {we wf : WE} {ρ : En} {A : Fld} (h : WF A) (h0 : Val we ρ (nt A.n)) (h1 : Val wf ρ (.tuple ((tiesL A.n A.lt).map npr))) : Val (wCall sp_ups_by 2 (wB we (wB wf wB0))) ρ (upsD A.n A.lt) := fun Q q => call2_v h0 h1 (by
  have l1 := ties_45 h
  refine ⟨A.n, tiesL A.n A.lt, _, h.n, fun x hx => ?_, by omega, .inl rfl, rfl, ?_⟩
  · exact ⟨(mem_ties.mp hx).1, (mem_ties.mp hx).2.1⟩
  · rw [memR_ties h, clo_self h.rng h.tr]
    exact q)
theorem seen_v {we wf : WE} {ρ : En} {A : Fld} {i : Nat} (h : WF A) (hi : i < A.n) (h1 : Val we ρ (.tuple (A.s.map ipr))) (h2 : Val wf ρ (nt i)) : Val (wOp Qd.rIxD we wf) ρ (ipr (A.s.getD i (0, 0))) := fun Q q => h1 _ (h2 _ ⟨_, atI_mapD ipr A.s i (by rw [h.s]; exact hi), by
  rw [show A.s[i]'(by rw [h.s]; exact hi) = A.s.getD i (0, 0) by rw [List.getD_eq_getElem?_getD, List.getElem?_eq_getElem (by rw [h.s]; exact hi)]; rfl]
  exact q⟩)
theorem rd_part_of : ∀ bs Q, sp_part_of bs Q → w_part_of { nx := fun _ => Q .none, rt := Q } (bs ++ List.replicate (N_part_of.length - bs.length) .no) := by
  rintro bs Q ⟨A, l, F, h, ho, e, rfl, q⟩
  obtain ⟨hlt, rfl⟩ := only_eq h e
  have ok : LotOk A.n l := ⟨hlt, ho.2⟩
  have hn := h.n
  have hll := lot_len ok
  let e0 : En := [.val (eF A), .val (nts l), .no, .no, .no, .no, .no, .no]
  have t1 := val_all (ρ := e0) (vs := [4]) (wl := wSeqI (wVar 1)) (g := wgName 4) (te := wOp rLtI (wVar 4) (wOp Qd.rIxD (wVar 0) (wC (.int 0)))) nt (fun _ => true) l (by omega) (seqI_v (d := nts l) rfl (var_v rfl)) (fun i hi Q q => g1_v (by
    refine var_v (d := nt i) rfl _ (fld0 (F := A) (var_v rfl) _ ⟨trivial, ?_⟩)
    show Q (.bool (decide ((i : Int) < (A.n : Int))))
    rw [decide_eq_true (by have := hlt i hi; omega)]
    exact q))
  rw [all_true] at t1
  refine seq_f (not_s (val_tst t1)) ?_
  refine seq_dc (fun p : Nat × Nat => .tuple [nt p.2, nt p.1]) (fun p => p.1) (fun k => nt (l.idxOf k)) (xs := l.zipIdx) (by rw [← enum_map]; exact enum_v (d := nts l) rfl (var_v rfl)) (by rw [List.zipIdx_map_fst]; exact ok.nodup) (by rw [List.length_zipIdx]; omega)
    (fun p hp => ⟨[.val (eF A), .val (nts l), .no, .no, .val (nt p.1), .val (nt p.2), .no, .no], fun K k => g2_v k, var_v rfl, by
      have hi : l.idxOf p.1 = p.2 := by
        obtain ⟨x, i⟩ := p
        have := List.mem_zipIdx hp
        obtain ⟨_, h2, h3⟩ := this
        simp only [Nat.sub_zero] at h3
        show l.idxOf x = i
        rw [h3]
        exact ok.nodup.idxOf_getElem _ _
      rw [hi]
      exact var_v rfl⟩) ?_
  rw [List.zipIdx_map_fst]
  refine seq_set (d := .list ((coversL A.lt l).map npr)) (fun Q q => call2_v (ups_of h (fld0 (F := A) (var_v rfl)) (fld1 (F := A) (var_v rfl))) (var_v (d := nts l) rfl) ⟨A.n, A.lt, l, hn, ok, rfl, q⟩) ?_
  let D := dKN (fun k => nt (l.idxOf k)) l
  have hcl := covers_len h ok
  have hc := valP_lc (ρ := [.val (eF A), .val (nts l), D, .val (.list ((coversL A.lt l).map npr)), .no, .no, .no, .no]) (vs := [6, 7]) (wl := wSeqI (wVar 3)) (g := wgTup 2 (wgCons (wgName 6) (wgCons (wgName 7) wgNil))) (te := wTup (wCons (wDGt 2 (wVar 6)) (wCons (wDGt 2 (wVar 7)) wNil)))
    npr (fun x => npr (l.idxOf x.1, l.idxOf x.2)) (coversL A.lt l) (by omega) (seqI_v rfl (var_v rfl)) (fun x hx Q q => g2_v (by
      obtain ⟨h1, h2, _⟩ := mem_covers.mp hx
      exact pair_v (dGt_N (ks := l) rfl (var_v rfl) h1) (dGt_N (ks := l) rfl (var_v rfl) h2) _ q))
  rw [show ((coversL A.lt l).map fun x => npr (l.idxOf x.1, l.idxOf x.2)) = (spotsR l (coversL A.lt l)).map npr by unfold spotsR; rw [List.map_map]; rfl] at hc
  refine seq_set (d := .tuple ((tiesL l.length (subR A.lt l)).map npr)) (fun Q q => call2_v (len_v (d := nts l) (ds := l.map nt) rfl (var_v rfl)) (val_fz hc) ⟨l.length, spotsR l (coversL A.lt l), _, by omega, fun x hx => ?_, ?_, .inr rfl, ?_, ?_⟩) ?_
  · obtain ⟨y, hy, rfl⟩ := List.mem_map.mp hx
    obtain ⟨h1, h2, _⟩ := mem_covers.mp hy
    exact ⟨List.idxOf_lt_length_of_mem h1, List.idxOf_lt_length_of_mem h2⟩
  · unfold spotsR
    rw [List.length_map]
    omega
  · rw [List.length_map]
  · rw [part_clo h ok]
    exact q
  refine ret_v (trip_v (a := nt l.length) (b := .tuple ((tiesL l.length (subR A.lt l)).map npr)) (c := .tuple ((l.map fun i => A.s.getD i (0, 0)).map ipr)) ?_ (var_v rfl) (tup1 (val_fz ?_))) q
  · have := len_v (we := wVar 1) (ρ := [.val (eF A), .val (nts l), D, .val (.tuple ((tiesL l.length (subR A.lt l)).map npr)), .no, .no, .no, .no]) (d := nts l) (ds := l.map nt) rfl (var_v rfl)
    rw [List.length_map] at this
    exact this
  · rw [List.map_map]
    exact valP_lc nt (fun i => ipr (A.s.getD i (0, 0))) l (by omega) (seqI_v (d := nts l) rfl (var_v rfl)) (fun i hi Q q => g1_v (seen_v h (hlt i hi) (fld2 (F := A) (var_v rfl)) (var_v rfl) _ q))
end Qp
set_option maxHeartbeats 2000000
namespace Qp
open PySem PySem.Spec PyProof.Rows L2 Qd
theorem ret_c {we : WE} {E : WEnds} {ρ : En} (h : we ρ E.rt) : wRet we E ρ := h
section
variable {wa wb : WE} {ρ : En} {a b : Int}
theorem addI_v (ha : Val wa ρ (.int a)) (hb : Val wb ρ (.int b)) : Val (wOp rAddI wa wb) ρ (.int (a + b)) := fun Q q => ha _ (hb _ ⟨trivial, q⟩)
theorem subI_v (ha : Val wa ρ (.int a)) (hb : Val wb ρ (.int b)) : Val (wOp rSubI wa wb) ρ (.int (a - b)) := fun Q q => ha _ (hb _ ⟨trivial, q⟩)
theorem mulI_v (ha : Val wa ρ (.int a)) (hb : Val wb ρ (.int b)) (h : -(2 ^ 64) < b ∧ b < 2 ^ 64) : Val (wOp rMulI wa wb) ρ (.int (a * b)) := fun Q q => ha _ (hb _ ⟨.inr h, q⟩)
end
theorem seen_map {ρ : En} {wl : WP} {te : WE} {a b : Nat} {s : List (Int × Int)} (f : Int × Int → Int × Int) (hl : s.length ≤ 1000) (hw : ValP wl ρ (s.map ipr)) (h : ∀ x ∈ s, Val te (((wipeR ρ [a, b]).set a (.val (.int x.1))).set b (.val (.int x.2))) (ipr (f x))) :
    Val (wCallB rTupD (wCons (wFz (wLc wl (wgTup 2 (wgCons (wgName a) (wgCons (wgName b) wgNil))) wYes te [a, b])) wNil)) ρ (.tuple ((s.map f).map ipr)) := by
  rw [List.map_map]
  exact tup1 (val_fz (valP_lc ipr (fun x => ipr (f x)) s hl hw (fun x hx Q q => g2_v (h x hx _ q))))
theorem swap_mem {A : Fld} (x : Nat × Nat) : x ∈ (tiesL A.n A.lt).map (fun x => (x.2, x.1)) ↔ x ∈ tiesL A.n (flipR A.lt) := by
  rw [List.mem_map, mem_ties]
  constructor
  · rintro ⟨y, hy, rfl⟩
    obtain ⟨h1, h2, h3⟩ := mem_ties.mp hy
    exact ⟨h2, h1, h3⟩
  · rintro ⟨h1, h2, h3⟩
    exact ⟨(x.2, x.1), mem_ties.mpr ⟨h2, h1, h3⟩, rfl⟩
theorem sort_v {we : WE} {ρ : En} {l : List (Nat × Nat)} {n : Nat} {p : Rel} (h : Val we ρ (.list (l.map npr))) (hn : l.Nodup) (hm : ∀ x, x ∈ l ↔ x ∈ tiesL n p) : ValP (wCallF rSortT (wCons we wNil)) ρ ((tiesL n p).map npr) := fun Q q => h _ (sort_pairs hn hm q)
theorem rd_single_of : ∀ bs Q, sp_single_of bs Q → w_single_of { nx := fun _ => Q .none, rt := Q } (bs ++ List.replicate (N_single_of.length - bs.length) .no) := by
  rintro bs Q ⟨o, a, A, F, h, ho, e, rfl, q⟩
  have hn := h.n
  have hs := h.s
  have l1 := ties_45 h
  refine seq_set (d := .str (opS o)) (word_v (t := .one o a) (var_v rfl)) ?_
  refine seq_asg3 (x := nt A.n) (y := .tuple ((tiesL A.n A.lt).map npr)) (z := .tuple (A.s.map ipr)) (var_v rfl) ?_
  cases o with
  | row k => exact seq_t (eqS_b (var_v rfl) c_v rfl) (ret_c (call2_v (var_v rfl) (e := nt k) (fun Q q => ⟨_, rfl, q⟩) ⟨A, k, F, h, ho.1, ho.2, e, rfl, q⟩))
  | moved d =>
    have e2 := moved_eq h e
    subst e2
    refine seq_f (eqS_b (var_v rfl) c_v rfl) (seq_t (eqS_b (var_v rfl) c_v rfl) (ret_v (trip_v (var_v rfl) (var_v rfl) (seen_map (s := A.s) (fun x => (x.1 + d, x.2)) (by omega) (seqI_v rfl (var_v rfl)) (fun x hx => ?_))) q))
    exact pair_v (addI_v (var_v rfl) (fun Q q => ⟨_, rfl, q⟩)) (var_v rfl)
  | times k =>
    have e2 := times_eq h e
    subst e2
    obtain ⟨k1, k2⟩ := ho
    refine seq_f (eqS_b (var_v rfl) c_v rfl) (seq_f (eqS_b (var_v rfl) c_v rfl) (seq_t (eqS_b (var_v rfl) c_v rfl) (ret_v (trip_v (var_v rfl) (var_v rfl) (seen_map (s := A.s) (fun x => (x.1, x.2 * (k : Int))) (by omega) (seqI_v rfl (var_v rfl)) (fun x hx => ?_))) q)))
    exact pair_v (var_v rfl) (mulI_v (b := (k : Int)) (var_v rfl) (fun Q q => ⟨_, rfl, q⟩) (by omega))
  | tied i j => exact seq_f (eqS_b (var_v rfl) c_v rfl) (seq_f (eqS_b (var_v rfl) c_v rfl) (seq_f (eqS_b (var_v rfl) c_v rfl) (seq_t (eqS_b (var_v rfl) c_v rfl) (ret_c (call3_v (var_v rfl) (e := nt i) (f := nt j) (fun Q q => ⟨_, rfl, q⟩) (fun Q q => ⟨_, rfl, q⟩) ⟨A, i, j, F, h, e, rfl, q⟩)))))
  | only l => exact seq_f (eqS_b (var_v rfl) c_v rfl) (seq_f (eqS_b (var_v rfl) c_v rfl) (seq_f (eqS_b (var_v rfl) c_v rfl) (seq_f (eqS_b (var_v rfl) c_v rfl) (seq_t (eqS_b (var_v rfl) c_v rfl) (ret_c (call2_v (var_v rfl) (e := nts l) (fun Q q => ⟨_, rfl, q⟩) ⟨A, l, F, h, ho, e, rfl, q⟩))))))
  | turned =>
    have e2 := turned_eq h e
    subst e2
    refine seq_f (eqS_b (var_v rfl) c_v rfl) (seq_f (eqS_b (var_v rfl) c_v rfl) (seq_f (eqS_b (var_v rfl) c_v rfl) (seq_f (eqS_b (var_v rfl) c_v rfl) (seq_f (eqS_b (var_v rfl) c_v rfl) ?_))))
    have hc := valP_lc (ρ := [.val (eT (.one .turned a)), .val (eF A), .val (.str "turned"), .val (nt A.n), .val (.tuple ((tiesL A.n A.lt).map npr)), .val (.tuple (A.s.map ipr)), .no, .no, .no, .no, .no]) (vs := [9, 10]) (wl := wSeqI (wVar 4)) (g := wgTup 2 (wgCons (wgName 9) (wgCons (wgName 10) wgNil))) (te := wTup (wCons (wVar 10) (wCons (wVar 9) wNil)))
      npr (fun x => npr (x.2, x.1)) (tiesL A.n A.lt) (by omega) (seqI_v rfl (var_v rfl)) (fun x hx Q q => g2_v (pair_v (var_v rfl) (var_v rfl) _ q))
    rw [show ((tiesL A.n A.lt).map fun x => npr (x.2, x.1)) = ((tiesL A.n A.lt).map fun x => (x.2, x.1)).map npr by rw [List.map_map]; rfl] at hc
    have hsrt : Val (wCallB rTupD (wCons (wFz (wCallF rSortT (wCons (wFz (wLc (wSeqI (wVar 4)) (wgTup 2 (wgCons (wgName 9) (wgCons (wgName 10) wgNil))) wYes (wTup (wCons (wVar 10) (wCons (wVar 9) wNil))) [9, 10])) wNil))) wNil)) [.val (eT (.one .turned a)), .val (eF A), .val (.str "turned"), .val (nt A.n), .val (.tuple ((tiesL A.n A.lt).map npr)), .val (.tuple (A.s.map ipr)), .no, .no, .no, .no, .no] (.tuple ((tiesL A.n (flipR A.lt)).map npr)) :=
      tup1 (val_fz (sort_v (val_fz hc) (nodup_map (fun x y e => by
        have h1 := congrArg Prod.fst e
        have h2 := congrArg Prod.snd e
        exact Prod.ext h2 h1) (ties_nodup _ _)) swap_mem))
    refine seq_set hsrt ?_
    refine ret_v (trip_v (var_v rfl) (var_v rfl) (seen_map (s := A.s) (fun x => (0 - x.1, x.2)) (by omega) (seqI_v rfl (var_v rfl)) (fun x hx => ?_))) q
    exact pair_v (subI_v c_v (var_v rfl)) (var_v rfl)
end Qp
set_option maxHeartbeats 2000000
namespace Qp
open PySem PySem.Spec PyProof.Rows L2 Qd
/-! ### dicts by tuples -/
def keyP (p : List Nat) : List Key := p.map keyN
theorem keyP_inj : ∀ a b : List Nat, keyP a = keyP b → a = b
  | [], [], _ => rfl
  | [], _ :: _, h => nomatch h
  | _ :: _, [], h => nomatch h
  | x :: a, y :: b, h => by
    have h : keyN x :: keyP a = keyN y :: keyP b := h
    injection h with h1 h2
    rw [keyN_inj _ _ h1, keyP_inj a b h2]
theorem keysD_map : ∀ p : List Nat, keysD (p.map nt) = some (keyP p)
  | [] => rfl
  | x :: p => by
    show (match keyD (nt x), keysD (p.map nt) with
      | some k, some l => some (k :: l)
      | _, _ => none) = _
    rw [keysD_map p]
    rfl
def dTP (f : List Nat → PyData) (ps : List (List Nat)) : Bd := .dT (ps.map fun p => (keyP p, f p))
theorem dGt_P {i : Nat} {wy : WE} {ρ : En} {f : List Nat → PyData} {ps : List (List Nat)} {p : List Nat} (h : ρ.getD i .no = dTP f ps) (hy : Val wy ρ (nts p)) (hk : p ∈ ps) : Val (wDGt i wy) ρ (f p) := fun Q q => by
  show isDic (ρ.getD i .no) ∧ wy ρ fun y => atDic (ρ.getD i .no) y fun o => ∃ d, o = some d ∧ Q d
  rw [h]
  refine ⟨trivial, hy _ ?_⟩
  show (match keysD (p.map nt) with
    | some k => ∃ d, valD (ps.map fun p => (keyP p, f p)) k = some d ∧ Q d
    | none => False)
  rw [keysD_map]
  show ∃ d, valD (ps.map fun p => (keyP p, f p)) (keyP p) = some d ∧ Q d
  rw [valD_map keyP keyP_inj, if_pos hk]
  exact ⟨_, rfl, q⟩
theorem put_P {i : Nat} {wy wv : WE} {E : WEnds} {ρ : En} {f : List Nat → PyData} {ps : List (List Nat)} {p : List Nat} (h : ρ.getD i .no = dTP f ps) (hv : Val wv ρ (f p)) (hy : Val wy ρ (nts p)) (hk : p ∉ ps) (hl : ps.length < 1000) (q : E.nx (ρ.set i (dTP f (ps ++ [p])))) : wDPut i wy wv E ρ := hv _ (by
  show isDic (ρ.getD i .no) ∧ wy ρ fun y => putDic (ρ.getD i .no) y (f p) fun b => E.nx (ρ.set i b)
  rw [h]
  refine ⟨trivial, hy _ ?_⟩
  show (match keysD (p.map nt) with
    | some k => (ps.map fun p => (keyP p, f p)).length < sizeLine ∧ E.nx (ρ.set i (.dT (putD (ps.map fun p => (keyP p, f p)) k (f p))))
    | none => False)
  rw [keysD_map]
  refine ⟨by rw [List.length_map, sizeLine_eq]; omega, ?_⟩
  rw [putD_new keyP keyP_inj f p (f p) ps hk]
  unfold dTP at q
  rw [List.map_append] at q
  exact q)
/-! ### paths -/
def castL (p : List Nat) : List Int := p.map fun (i : Nat) => (i : Int)
theorem tupsI_map : ∀ ps : List (List Nat), tupsI (ps.map nts) = some (ps.map castL)
  | [] => rfl
  | p :: ps => by
    show (match intsD (p.map fun (i : Nat) => PyData.int (i : Int)), tupsI (ps.map nts) with
      | some ns, some l => some (ns :: l)
      | _, _ => none) = _
    rw [tupsI_map ps, ints_map (fun (i : Nat) => (i : Int)) p]
    rfl
theorem toNat_cast (p : List Nat) : (castL p).map Int.toNat = p := by
  unfold castL
  rw [List.map_map]
  exact (List.map_congr_left fun x _ => rfl).trans (List.map_id p)
theorem perm_cast {out : List (List Int)} {l : List (List Nat)} (h : out.Perm (l.map castL)) : ∃ ps : List (List Nat), ps.Perm l ∧ out = ps.map castL := by
  refine ⟨out.map fun o => o.map Int.toNat, ?_, ?_⟩
  · have := h.map fun o => o.map Int.toNat
    rw [List.map_map] at this
    have e : l.map ((fun o => o.map Int.toNat) ∘ castL) = l := (List.map_congr_left fun x _ => toNat_cast x).trans (List.map_id l)
    rw [e] at this
    exact this
  · rw [List.map_map]
    refine ((List.map_congr_left fun o ho => ?_).trans (List.map_id out)).symm
    obtain ⟨p, _, rfl⟩ := List.mem_map.mp (h.mem_iff.mp ho)
    show castL ((castL p).map Int.toNat) = castL p
    rw [toNat_cast]
theorem app_lt (o x y : List Int) (h : x < y) : o ++ x < o ++ y := by
  induction o with
  | nil => exact h
  | cons a o ih =>
    rw [List.cons_append, List.cons_append, List.cons_lt_cons_iff]
    exact .inr ⟨rfl, ih⟩
theorem paths_nodup : ∀ t : Tm, (pathsL t).Nodup
  | .thing _ _ => by simp [pathsL]
  | .nil => by simp [pathsL]
  | .dbl _ a b => by
    have ha := nodup_map (f := fun x => 1 :: x) (fun x y e => (List.cons.inj e).2) (paths_nodup a)
    have hb := nodup_map (f := fun x => 2 :: x) (fun x y e => (List.cons.inj e).2) (paths_nodup b)
    refine List.nodup_cons.mpr ⟨fun z => ?_, List.nodup_append.mpr ⟨ha, hb, fun x hx y hy e => ?_⟩⟩
    · rcases List.mem_append.mp z with z | z <;> obtain ⟨p, _, e⟩ := List.mem_map.mp z <;> cases e
    · subst e
      obtain ⟨p, _, e1⟩ := List.mem_map.mp hx
      obtain ⟨p', _, e2⟩ := List.mem_map.mp hy
      rw [← e2] at e1
      have := (List.cons.inj e1).1
      omega
  | .one _ a => by
    have ha := nodup_map (f := fun x => 1 :: x) (fun x y e => (List.cons.inj e).2) (paths_nodup a)
    refine List.nodup_cons.mpr ⟨fun z => ?_, ha⟩
    obtain ⟨p, _, e⟩ := List.mem_map.mp z
    cases e
theorem nil_path (t : Tm) : [] ∈ pathsL t := by cases t <;> exact List.mem_cons_self
structure PathOk (t : Tm) (p : List Nat) (u : Tm) : Prop where
  at_ : termAt t p = some u
  len : p.length < high t
  form : form t → form u
  den : (∃ F, den t = some F) → ∃ G, den u = some G
  kid : ∀ k ∈ placesL u, k < 9 ∧ p ++ [k] ∈ pathsL t ∧ termAt t (p ++ [k]) = kidAt u k
theorem path_kid {t a : Tm} {k : Nat} {p : List Nat} {u : Tm} (hk : kidAt t k = some a) (hp : ∀ q, q ∈ pathsL a → k :: q ∈ pathsL t) (hf : form t → form a) (hd : (∃ F, den t = some F) → ∃ G, den a = some G) (hh : high a < high t) (h : PathOk a p u) : PathOk t (k :: p) u := by
  refine ⟨?_, ?_, fun z => h.form (hf z), fun z => h.den (hd z), fun j hj => ?_⟩
  · show (kidAt t k).bind (fun u => termAt u p) = some u
    rw [hk]
    exact h.at_
  · rw [List.length_cons]
    have := h.len
    omega
  · obtain ⟨h0, h1, h2⟩ := h.kid j hj
    refine ⟨h0, hp _ h1, ?_⟩
    show (kidAt t k).bind (fun u => termAt u (p ++ [j])) = _
    rw [hk]
    exact h2
theorem path_ok : ∀ (t : Tm) {p : List Nat}, p ∈ pathsL t → ∃ u, PathOk t p u
  | .thing w h, p, hp => by
    cases List.mem_singleton.mp hp
    exact ⟨.thing w h, rfl, Nat.zero_lt_succ _, _root_.id, _root_.id, fun k hk => nomatch hk⟩
  | .nil, p, hp => by
    cases List.mem_singleton.mp hp
    exact ⟨.nil, rfl, Nat.zero_lt_succ _, _root_.id, _root_.id, fun k hk => nomatch hk⟩
  | .dbl v a b, p, hp => by
    rcases List.mem_cons.mp hp with rfl | hp
    · refine ⟨.dbl v a b, rfl, by simp only [high, List.length_nil]; omega, _root_.id, _root_.id, fun k hk => ?_⟩
      rcases List.mem_cons.mp hk with rfl | hk
      · exact ⟨by omega, List.mem_cons_of_mem _ (List.mem_append_left _ (List.mem_map.mpr ⟨[], nil_path a, rfl⟩)), rfl⟩
      · rcases List.mem_cons.mp hk with rfl | hk
        · exact ⟨by omega, List.mem_cons_of_mem _ (List.mem_append_right _ (List.mem_map.mpr ⟨[], nil_path b, rfl⟩)), rfl⟩
        · nomatch hk
    · rcases List.mem_append.mp hp with hp | hp
      · obtain ⟨q, hq, rfl⟩ := List.mem_map.mp hp
        obtain ⟨u, hu⟩ := path_ok a hq
        refine ⟨u, path_kid rfl (fun q hq => List.mem_cons_of_mem _ (List.mem_append_left _ (List.mem_map.mpr ⟨q, hq, rfl⟩))) (fun z => z.1) ?_ (by simp only [high]; omega) hu⟩
        rintro ⟨F, e⟩
        obtain ⟨A, e1, _⟩ := Option.bind_eq_some_iff.mp (show ((den a).bind fun A => (den b).bind fun B => two A B v) = some F from e)
        exact ⟨A, e1⟩
      · obtain ⟨q, hq, rfl⟩ := List.mem_map.mp hp
        obtain ⟨u, hu⟩ := path_ok b hq
        refine ⟨u, path_kid rfl (fun q hq => List.mem_cons_of_mem _ (List.mem_append_right _ (List.mem_map.mpr ⟨q, hq, rfl⟩))) (fun z => z.2) ?_ (by simp only [high]; omega) hu⟩
        rintro ⟨F, e⟩
        obtain ⟨A, _, e1⟩ := Option.bind_eq_some_iff.mp (show ((den a).bind fun A => (den b).bind fun B => two A B v) = some F from e)
        obtain ⟨B, e2, _⟩ := Option.bind_eq_some_iff.mp e1
        exact ⟨B, e2⟩
  | .one o a, p, hp => by
    rcases List.mem_cons.mp hp with rfl | hp
    · refine ⟨.one o a, rfl, by simp only [high, List.length_nil]; omega, _root_.id, _root_.id, fun k hk => ?_⟩
      rcases List.mem_cons.mp hk with rfl | hk
      · exact ⟨by omega, List.mem_cons_of_mem _ (List.mem_map.mpr ⟨[], nil_path a, rfl⟩), rfl⟩
      · nomatch hk
    · obtain ⟨q, hq, rfl⟩ := List.mem_map.mp hp
      obtain ⟨u, hu⟩ := path_ok a hq
      refine ⟨u, path_kid rfl (fun q hq => List.mem_cons_of_mem _ (List.mem_map.mpr ⟨q, hq, rfl⟩)) (fun z => z.2) ?_ (by simp only [high]; omega) hu⟩
      rintro ⟨F, e⟩
      obtain ⟨A, e1, _⟩ := Option.bind_eq_some_iff.mp (show ((den a).bind fun A => denO A o) = some F from e)
      exact ⟨A, e1⟩
theorem kids_den {u : Tm} {G : Fld} (hf : form u) (e : den u = some G) : ∃ Fs : List Fld, (kids u).map den = Fs.map some ∧ (∀ A ∈ Fs, WF A) ∧ (placesL u).map (fun k => eFo ((kidAt u k).bind den)) = Fs.map eF := by
  cases u with
  | thing _ _ => exact ⟨[], rfl, fun _ h => (nomatch h), rfl⟩
  | nil => exact ⟨[], rfl, fun _ h => (nomatch h), rfl⟩
  | dbl v a b =>
    obtain ⟨A, e1, e⟩ := Option.bind_eq_some_iff.mp (show ((den a).bind fun A => (den b).bind fun B => two A B v) = some G from e)
    obtain ⟨B, e2, e⟩ := Option.bind_eq_some_iff.mp e
    refine ⟨[A, B], ?_, fun C hC => ?_, ?_⟩
    · show [den a, den b] = [some A, some B]
      rw [e1, e2]
    · rcases List.mem_cons.mp hC with rfl | hC
      · exact den_wf hf.1 e1
      · rw [List.mem_singleton.mp hC]
        exact den_wf hf.2 e2
    · show [eFo (den a), eFo (den b)] = [eF A, eF B]
      rw [e1, e2]
      rfl
  | one o a =>
    obtain ⟨A, e1, e⟩ := Option.bind_eq_some_iff.mp (show ((den a).bind fun A => denO A o) = some G from e)
    refine ⟨[A], ?_, fun C hC => ?_, ?_⟩
    · show [den a] = [some A]
      rw [e1]
    · rw [List.mem_singleton.mp hC]
      exact den_wf hf.2 e1
    · show [eFo (den a)] = [eF A]
      rw [e1]
      rfl
def valT (t : Tm) (p : List Nat) : PyData := eFo ((termAt t p).bind den)
theorem seq_asgD {i j : Nat} {we : WE} {rest : WS} {E : WEnds} {ρ : En} {d : PyData} (h : Val we ρ d) (k : rest E ((ρ.set i (.val d)).set j (.dT []))) : wSeq (wAsgD i j we) rest E ρ := h _ k
theorem seq_sortK {we : WE} {g : WG} {tb rest : WS} {E : WEnds} {ρ : En} {l : List (List Nat)} (h : Val we ρ (.list (l.map nts))) (hl : ∀ p ∈ l, p.length < 1000) (k : ∀ ps : List (List Nat), ps.Perm l → ps.Pairwise (fun a b => ¬ (castL b ++ [9] < castL a ++ [9])) → wForL g tb (ps.map nts) { E with nx := rest E } ρ) :
    wSeq (wFor (wSeqI (wFz (wSortK we))) g tb) rest E ρ := h _ (by
  show (match tupsI (l.map nts) with
    | some nss => (∀ ns ∈ nss, ns.length < 1000) ∧ ∀ out : List (List Int), out.Perm nss → out.Pairwise (fun a b => ¬ (b ++ [9] < a ++ [9])) → wForL g tb (out.map tupI) { E with nx := rest E } ρ
    | none => False)
  rw [tupsI_map]
  refine ⟨fun ns hns => ?_, fun out hp hs => ?_⟩
  · obtain ⟨p, hp, rfl⟩ := List.mem_map.mp hns
    have := hl p hp
    unfold castL
    rw [List.length_map]
    exact this
  obtain ⟨ps, hps, rfl⟩ := perm_cast hp
  rw [List.pairwise_map] at hs
  rw [List.map_map, show (tupI ∘ castL) = nts from funext fun p => by
    show PyData.tuple ((p.map fun (i : Nat) => (i : Int)).map PyData.int) = _
    rw [List.map_map]
    rfl]
  exact k ps hps hs)
theorem rd_field_in : ∀ bs Q, sp_field_in bs Q → w_field_in { nx := fun _ => Q .none, rt := Q } (bs ++ List.replicate (N_field_in.length - bs.length) .no) := by
  rintro bs Q ⟨t, F, h, rfl, q⟩
  have hz := sizeLine_eq
  have hlp := paths_len t
  have hw := h.words
  have hh := h.high
  refine seq_asgD (d := .list ((pathsL t).map nts)) (fun Q q => call1_v (var_v rfl) ⟨t, rfl, h.form, h.words, h.high, q⟩) ?_
  refine seq_sortK (l := pathsL t) (var_v rfl) (fun p hp => ?_) (fun ps hps hs => ?_)
  · obtain ⟨u, hu⟩ := path_ok t hp
    have := hu.len
    omega
  have hnd : ps.Nodup := hps.nodup_iff.mpr (paths_nodup t)
  have hlen : ps.length ≤ 20 := by
    rw [hps.length_eq]
    omega
  refine for_pre (all := ps) nts (fun pre ρ => ∃ b3 b4 b5 b6, ρ = [.val (eT t), .val (.list ((pathsL t).map nts)), dTP (valT t) pre, b3, b4, b5, b6]) ?_ ?_ (pre := []) rfl ⟨.no, .no, .no, .no, rfl⟩
  · rintro pre p post ρ E1 he ⟨b3, b4, b5, b6, rfl⟩ hrt hnx -
    have hpm : p ∈ pathsL t := hps.mem_iff.mp (by rw [← he]; simp)
    obtain ⟨u, hu⟩ := path_ok t hpm
    obtain ⟨G, hG⟩ := hu.den ⟨F, h.den⟩
    have hfu := hu.form h.form
    have hwf := den_wf hfu hG
    obtain ⟨Fs, hk1, hk2, hk3⟩ := kids_den hfu hG
    have hnp : p ∉ pre := fun z => by
      rw [← he] at hnd
      exact (List.nodup_append.mp hnd).2.2 p z p List.mem_cons_self rfl
    have hpre : pre.length ≤ 20 := by
      rw [← he, List.length_append] at hlen
      omega
    have hin : ∀ k ∈ placesL u, p ++ [k] ∈ pre := fun k hk => by
      obtain ⟨h0, h1, _⟩ := hu.kid k hk
      have hm : p ++ [k] ∈ ps := hps.mem_iff.mpr h1
      rw [← he] at hm hs
      rcases List.mem_append.mp hm with hm | hm
      · exact hm
      · rcases List.mem_cons.mp hm with hm | hm
        · have := congrArg List.length hm
          rw [List.length_append, List.length_singleton] at this
          omega
        · exfalso
          refine (List.pairwise_cons.mp (List.pairwise_append.mp hs).2.1).1 _ hm ?_
          unfold castL
          rw [List.map_append, List.append_assoc]
          refine app_lt _ _ _ ?_
          show ([(k : Int), 9] : List Int) < [9]
          rw [List.cons_lt_cons_iff]
          exact .inl (by omega)
    refine g1_v ?_
    show wSeq _ _ E1 [.val (eT t), .val (.list ((pathsL t).map nts)), dTP (valT t) pre, .val (nts p), b4, b5, b6]
    refine seq_set (d := eT u) (fun Q q => call2_v (var_v rfl) (var_v rfl) ⟨t, p, u, rfl, hu.at_, q⟩) ?_
    have hc := valP_lc (ρ := [.val (eT t), .val (.list ((pathsL t).map nts)), dTP (valT t) pre, .val (nts p), .val (eT u), b5, b6]) (vs := [6]) (wl := wSeqI (wCall sp_places_in 1 (wB (wVar 4) wB0))) (g := wgName 6) (te := wDGt 2 (wOp rAddT (wVar 3) (wTup (wCons (wVar 6) wNil))))
      nt (fun k => valT t (p ++ [k])) (placesL u) (by have := places_le u; omega) (seqI_v (d := nts (placesL u)) rfl (fun Q q => call1_v (var_v rfl) ⟨u, rfl, q⟩)) (fun k hk Q q => g1_v (by
        refine dGt_P (ps := pre) (p := p ++ [k]) rfl (fun Q q => ?_) (hin k hk) _ q
        refine addT_v (xs := p.map nt) (ys := [nt k]) (var_v rfl) (tup_v (cons_v (var_v rfl) nil_v) (by show 1 ≤ 1000; decide)) (by have := hu.len; rw [List.length_map, List.length_singleton]; omega) _ ?_
        rw [nts, List.map_append] at q
        exact q))
    rw [show (placesL u).map (fun k => valT t (p ++ [k])) = Fs.map eF by
      rw [← hk3]
      refine List.map_congr_left fun k hk => ?_
      unfold valT
      rw [(hu.kid k hk).2.2]] at hc
    refine seq_set (d := eF G) (fun Q q => call2_v (var_v rfl) (val_fz hc) ⟨u, Fs, G, form_own hfu, hk1, hk2, hG, rfl, q⟩) ?_
    refine seq_f (not_s fun Q q => call1_v (var_v rfl) ⟨G, hwf, rfl, q⟩) ?_
    have hv : valT t p = eF G := by
      unfold valT
      rw [hu.at_]
      show eFo (den u) = _
      rw [hG]
      rfl
    refine put_P (ps := pre) (p := p) (f := valT t) rfl (by rw [hv]; exact var_v rfl) (var_v rfl) hnp (by omega) (hnx _ ⟨_, _, _, _, rfl⟩)
  · rintro ρ ⟨b3, b4, b5, b6, rfl⟩
    have hv : valT t [] = eF F := by
      show eFo ((some t).bind den) = _
      show eFo (den t) = _
      rw [h.den]
      rfl
    refine ret_v (d := valT t []) (dGt_P (ps := ps) (p := []) rfl (tup_v nil_v (Nat.zero_le _)) (hps.mem_iff.mpr (nil_path t))) ?_
    rw [hv]
    exact q
end Qp
set_option maxHeartbeats 4000000
namespace Qp
open PySem PySem.Spec PyProof.Rows L2 Qd
variable {P : Program} {w : World} {K : PySem.W.Frag} {mg : Str → Option Value} {base : Heap} {W : Wd}
abbrev N_is_up_in : List Str := ["ups", "lot", "one", "far"]
abbrev s_is_up_in : Stmt := top 61
theorem sc_is_up_in : FnScope N_is_up_in ["ups", "lot"] (defScope s_is_up_in) := ⟨rfl, rfl, rfl, by decide +kernel, rfl, by decide +kernel, by decide +kernel⟩
def w_is_up_in : WS := (wRet (wCallB rAllD (wCons (wFz (wLc (wSeqI (wVar 1)) (wgName 2) wYes (wCallB rAllD (wCons (wFz (wLc (wSeqI (wOp rIxD (wVar 0) (wVar 2))) (wgName 3) wYes (wOp (rInD false) (wVar 3) (wVar 1)) [3])) wNil)) [2])) wNil)))
abbrev N_mean_in : List Str := ["field", "lot", "weights", "one"]
abbrev s_mean_in : Stmt := top 62
theorem sc_mean_in : FnScope N_mean_in ["field", "lot"] (defScope s_mean_in) := ⟨rfl, rfl, rfl, by decide +kernel, rfl, by decide +kernel, by decide +kernel⟩
def w_mean_in : WS := (wSeq (wSet 2 (wCallB rSumD (wCons (wFz (wLc (wSeqI (wVar 1)) (wgName 3) wYes (wOp rIxD (wOp rIxD (wOp rIxD (wVar 0) (wC (.int 2))) (wVar 3)) (wC (.int 1))) [3])) wNil)))
  (wRet (wCall sp_made 2 (wB (wCallB rSumD (wCons (wFz (wLc (wSeqI (wVar 1)) (wgName 3) wYes (wOp rMulI (wOp rIxD (wOp rIxD (wOp rIxD (wVar 0) (wC (.int 2))) (wVar 3)) (wC (.int 0))) (wOp rIxD (wOp rIxD (wOp rIxD (wVar 0) (wC (.int 2))) (wVar 3)) (wC (.int 1)))) [3])) wNil)) (wB (wVar 2) wB0)))))
abbrev N_lots_of : List Str := ["many", "found", "one", "lot"]
abbrev s_lots_of : Stmt := top 63
theorem sc_lots_of : FnScope N_lots_of ["many"] (defScope s_lots_of) := ⟨rfl, rfl, rfl, by decide +kernel, rfl, by decide +kernel, by decide +kernel⟩
def w_lots_of : WS := (wSeq (wSet 1 (wFz (wLst (wCons (wTup wNil) wNil))))
  (wSeq (wFor (wRng (wVar 0)) (wgName 2) (wSet 1 (wFz (wCat (wVar 1) (wFz (wLc (wSeqI (wVar 1)) (wgName 3) wYes (wTup (wStar (wVar 3) (wCons (wVar 2) wNil))) [3]))))))
  (wRet (wVar 1))))
abbrev N_up_in : List Str := ["field", "ups", "lot"]
abbrev s_up_in : Stmt := top 64
theorem sc_up_in : FnScope N_up_in ["field"] (defScope s_up_in) := ⟨rfl, rfl, rfl, by decide +kernel, rfl, by decide +kernel, by decide +kernel⟩
def w_up_in : WS := (wSeq (wSet 1 (wCall sp_ups_in 1 (wB (wVar 0) wB0)))
  (wRet (wFz (wCallF rSortT (wCons (wFz (wLc (wSeqI (wCall sp_lots_of 1 (wB (wOp rIxD (wVar 0) (wC (.int 0))) wB0))) (wgName 2) (wTst (wCall sp_is_up_in 2 (wB (wVar 1) (wB (wVar 2) wB0)))) (wVar 2) [2])) wNil)))))
abbrev N_next_level : List Str := ["field", "some", "known", "best", "lot", "rest", "here", "one"]
abbrev s_next_level : Stmt := top 66
theorem sc_next_level : FnScope N_next_level ["field", "some", "known"] (defScope s_next_level) := ⟨rfl, rfl, rfl, by decide +kernel, rfl, by decide +kernel, by decide +kernel⟩
def w_next_level : WS := (wSeq (wSet 3 (wC .none))
  (wSeq (wFor (wSeqI (wVar 1)) (wgName 4) (wSeq (wSet 5 (wCallB rTupD (wCons (wFz (wLc (wSeqI (wVar 4)) (wgName 7) (wTst (wOp (rInD true) (wVar 7) (wVar 2))) (wVar 7) [7])) wNil)))
  (wSeq (wSet 6 (wTup (wCons (wCall sp_mean_in 2 (wB (wVar 0) (wB (wVar 5) wB0))) (wCons (wVar 5) wNil))))
  (wIfS (wOr (wTst (wOp rIsN (wVar 3) (wC .none))) (wTst (wCall sp_is_under 2 (wB (wOp rIxD (wVar 3) (wC (.int 0))) (wB (wOp rIxD (wVar 6) (wC (.int 0))) wB0))))) (wSet 3 (wVar 6)) (wIfS (wAnd (wTst (wOp rEqD (wOp rIxD (wVar 3) (wC (.int 0))) (wOp rIxD (wVar 6) (wC (.int 0))))) (wTst (wOp rLtI (wCallB rLen (wCons (wOp rIxD (wVar 3) (wC (.int 1))) wNil)) (wCallB rLen (wCons (wVar 5) wNil))))) (wSet 3 (wVar 6)) wNext)))))
  (wRet (wVar 3))))
abbrev N_levels_in : List Str := ["field", "found", "known", "lots", "some", "level", "lot", "one"]
abbrev s_levels_in : Stmt := top 67
theorem sc_levels_in : FnScope N_levels_in ["field"] (defScope s_levels_in) := ⟨rfl, rfl, rfl, by decide +kernel, rfl, by decide +kernel, by decide +kernel⟩
def w_levels_in : WS := (wSeq (wAsg (wTup (wCons (wFz (wLst wNil)) (wCons (wFz (wLst wNil)) (wCons (wCall sp_up_in 1 (wB (wVar 0) wB0)) wNil)))) (wgTup 3 (wgCons (wgName 1) (wgCons (wgName 2) (wgCons (wgName 3) wgNil)))))
  (wSeq (wWhile (wTst (wOp rLtI (wCallB rLen (wCons (wVar 2) wNil)) (wOp rIxD (wVar 0) (wC (.int 0))))) (wSeq (wSet 4 (wFz (wLc (wSeqI (wVar 3)) (wgName 6) (wAnd (wTst (wOp rGtI (wCallB rLen (wCons (wVar 6) wNil)) (wCallB rLen (wCons (wVar 2) wNil)))) (wTst (wCallB rAllD (wCons (wFz (wLc (wSeqI (wVar 2)) (wgName 7) wYes (wOp (rInD false) (wVar 7) (wVar 6)) [7])) wNil)))) (wVar 6) [6])))
  (wSeq (wSet 5 (wCall sp_next_level 3 (wB (wVar 0) (wB (wVar 4) (wB (wVar 2) wB0)))))
  (wSeq (wSet 1 (wFz (wLst (wCons (wVar 5) (wStar (wVar 1) wNil)))))
  (wSet 2 (wFz (wCat (wVar 2) (wFz (wCallF rListD (wCons (wOp rIxD (wVar 5) (wC (.int 1))) wNil))))))))))
  (wRet (wVar 1))))
abbrev N_table_by : List Str := ["levels", "guesses", "guess", "lot", "one"]
abbrev s_table_by : Stmt := top 68
theorem sc_table_by : FnScope N_table_by ["levels"] (defScope s_table_by) := ⟨rfl, rfl, rfl, by decide +kernel, rfl, by decide +kernel, by decide +kernel⟩
def w_table_by : WS := (wSeq (wSetDc2 1 (wSeqI (wVar 0)) (wgTup 2 (wgCons (wgName 2) (wgCons (wgName 3) wgNil))) (wSeqI (wVar 3)) (wgName 4) (wVar 4) (wVar 2) [2, 3, 4] [4])
  (wRet (wCallB rTupD (wCons (wFz (wLc (wRng (wDLen 1)) (wgName 4) wYes (wDGt 1 (wVar 4)) [4])) wNil))))
abbrev N_best_in : List Str := ["field"]
abbrev s_best_in : Stmt := top 69
theorem sc_best_in : FnScope N_best_in ["field"] (defScope s_best_in) := ⟨rfl, rfl, rfl, by decide +kernel, rfl, by decide +kernel, by decide +kernel⟩
def w_best_in : WS := (wRet (wCall sp_table_by 1 (wB (wCall sp_levels_in 1 (wB (wVar 0) wB0)) wB0)))
abbrev N_best_table : List Str := ["field"]
abbrev s_best_table : Stmt := top 70
theorem sc_best_table : FnScope N_best_table ["field"] (defScope s_best_table) := ⟨rfl, rfl, rfl, by decide +kernel, rfl, by decide +kernel, by decide +kernel⟩
def w_best_table : WS := (wRet (wCall sp_best_in 1 (wB (wCall sp_need_field 1 (wB (wVar 0) wB0)) wB0)))
theorem ok_is_up_in (T : Tx w K mg) {f : Addr} {fd : FuncData} (F : FnP K "is_up_in" s_is_up_in f fd) (hm : mg "is_up_in" = some (.ref f))  (rd : ∀ bs Q, sp_is_up_in bs Q → w_is_up_in { nx := fun _ => Q .none, rt := Q } (bs ++ List.replicate (N_is_up_in.length - bs.length) .no)) : Cal P w K mg base W "is_up_in" 1 2 sp_is_up_in := by
  have sc := sc_is_up_in
  refine ⟨f, fd, ["ups", "lot"], fn_d F sc (wb := w_is_up_in) (fun cdv A outer s H E hr => ?_) rd, hm, F.kp, F.bindsN fun _ _ _ _ _ _ us hl => match us, hl with | [_, _], _ => rfl⟩
  exact (ds_one (ds_ret (de_callB (cp_all rfl) (by rfl) T.n_all PyProof.Rows.boot_all (dp_cons (DE.pk (DF.de (df_lc (own := [("one", 2)]) rfl sc.nd (di_seq (de_var 1)) (blkOk_by (sc := defScope s_is_up_in) (own := [("one", 2)]) (N := N_is_up_in) (by decide +kernel)) (fun _ _ _ _ _ => (dg_name (i := 2) sc.nd rfl (by first | exact Or.inl rfl | exact Or.inr rfl))) (fun _ _ _ _ _ => dts_nil) (fun _ _ _ _ _ => (de_callB (cp_all rfl) (by rfl) T.n_all PyProof.Rows.boot_all (dp_cons (DE.pk (DF.de (df_lc (own := [("far", 3)]) rfl sc.nd (di_seq (de_ix (DE.pk (de_var 0)) (de_var 2) (fun _ _ => rfl))) (blkOk_by (by rfl)) (fun _ _ _ _ _ => (dg_name (i := 3) sc.nd rfl (by first | exact Or.inl rfl | exact Or.inr rfl))) (fun _ _ _ _ _ => dts_nil) (fun _ _ _ _ _ => (de_cmpP (op_inP op_in_seq) (DE.pk (de_var 3)) (DE.pk (de_var 1)) (by rfl)))))) dp_nil)))))) dp_nil))))
theorem ok_mean_in (T : Tx w K mg) {f : Addr} {fd : FuncData} (F : FnP K "mean_in" s_mean_in f fd) (hm : mg "mean_in" = some (.ref f)) (C_made : Cal P w K mg base W "made" 2 2 sp_made) (rd : ∀ bs Q, sp_mean_in bs Q → w_mean_in { nx := fun _ => Q .none, rt := Q } (bs ++ List.replicate (N_mean_in.length - bs.length) .no)) : Cal P w K mg base W "mean_in" 3 2 sp_mean_in := by
  have sc := sc_mean_in
  refine ⟨f, fd, ["field", "lot"], fn_d F sc (wb := w_mean_in) (fun cdv A outer s H E hr => ?_) rd, hm, F.kp, F.bindsN fun _ _ _ _ _ _ us hl => match us, hl with | [_, _], _ => rfl⟩
  exact (ds_cons (ds_set (i := 2) sc.nd rfl (by first | exact Or.inl rfl | exact Or.inr rfl) (de_callB (cp_sum rfl) (by rfl) T.n_sum PyProof.Rows.boot_sum (dp_cons (DE.pk (DF.de (df_lc (own := [("one", 3)]) rfl sc.nd (di_seq (de_var 1)) (blkOk_by (sc := defScope s_mean_in) (own := [("one", 3)]) (N := N_mean_in) (by decide +kernel)) (fun _ _ _ _ _ => (dg_name (i := 3) sc.nd rfl (by first | exact Or.inl rfl | exact Or.inr rfl))) (fun _ _ _ _ _ => dts_nil) (fun _ _ _ _ _ => (de_ix (DE.pk (de_ix (DE.pk (de_ix (DE.pk (de_var 0)) de_int (fun _ _ => rfl))) (de_var 3) (fun _ _ => rfl))) de_int (fun _ _ => rfl)))))) dp_nil)))
    (ds_one (ds_ret (de_cal C_made (hr.mono (by decide)) (by rfl) (db_cons (de_callB (cp_sum rfl) (by rfl) T.n_sum PyProof.Rows.boot_sum (dp_cons (DE.pk (DF.de (df_lc (own := [("one", 3)]) rfl sc.nd (di_seq (de_var 1)) (blkOk_by (sc := defScope s_mean_in) (own := [("one", 3)]) (N := N_mean_in) (by decide +kernel)) (fun _ _ _ _ _ => (dg_name (i := 3) sc.nd rfl (by first | exact Or.inl rfl | exact Or.inr rfl))) (fun _ _ _ _ _ => dts_nil) (fun _ _ _ _ _ => (de_bin od_mul (de_ix (DE.pk (de_ix (DE.pk (de_ix (DE.pk (de_var 0)) de_int (fun _ _ => rfl))) (de_var 3) (fun _ _ => rfl))) de_int (fun _ _ => rfl)) (de_ix (DE.pk (de_ix (DE.pk (de_ix (DE.pk (de_var 0)) de_int (fun _ _ => rfl))) (de_var 3) (fun _ _ => rfl))) de_int (fun _ _ => rfl))))))) dp_nil)) (db_cons (de_var 2) db_nil))))))
theorem ok_lots_of (T : Tx w K mg) {f : Addr} {fd : FuncData} (F : FnP K "lots_of" s_lots_of f fd) (hm : mg "lots_of" = some (.ref f))  (rd : ∀ bs Q, sp_lots_of bs Q → w_lots_of { nx := fun _ => Q .none, rt := Q } (bs ++ List.replicate (N_lots_of.length - bs.length) .no)) : Cal P w K mg base W "lots_of" 1 1 sp_lots_of := by
  have sc := sc_lots_of
  refine ⟨f, fd, ["many"], fn_d F sc (wb := w_lots_of) (fun cdv A outer s H E hr => ?_) rd, hm, F.kp, F.bindsN fun _ _ _ _ _ _ us hl => match us, hl with | [_], _ => rfl⟩
  exact (ds_cons (ds_set (i := 1) sc.nd rfl (by first | exact Or.inl rfl | exact Or.inr rfl) (DF.de (df_lst (da_cons (de_tup da_nil) da_nil))))
    (ds_cons (ds_for PassesOwn.never rfl (di_rng (de_var 0) (by rfl) T.n_range) (dg_name (i := 2) sc.nd rfl (by first | exact Or.inl rfl | exact Or.inr rfl)) (ds_one (ds_set (i := 1) sc.nd rfl (by first | exact Or.inl rfl | exact Or.inr rfl) (DF.de (df_cat (DE.pk (de_var 1)) (DE.pk (DF.de (df_lc (own := [("lot", 3)]) rfl sc.nd (di_seq (de_var 1)) (blkOk_by (sc := defScope s_lots_of) (own := [("lot", 3)]) (N := N_lots_of) (by decide +kernel)) (fun _ _ _ _ _ => (dg_name (i := 3) sc.nd rfl (by first | exact Or.inl rfl | exact Or.inr rfl))) (fun _ _ _ _ _ => dts_nil) (fun _ _ _ _ _ => (de_tup (da_star (DE.pk (de_var 3)) (da_cons (de_var 2) da_nil))))))))))))
    (ds_one (ds_ret (de_var 1)))))
theorem ok_up_in (T : Tx w K mg) {f : Addr} {fd : FuncData} (F : FnP K "up_in" s_up_in f fd) (hm : mg "up_in" = some (.ref f)) (C_ups_in : Cal P w K mg base W "ups_in" 2 1 sp_ups_in) (C_is_up_in : Cal P w K mg base W "is_up_in" 1 2 sp_is_up_in) (C_lots_of : Cal P w K mg base W "lots_of" 1 1 sp_lots_of) (rd : ∀ bs Q, sp_up_in bs Q → w_up_in { nx := fun _ => Q .none, rt := Q } (bs ++ List.replicate (N_up_in.length - bs.length) .no)) : Cal P w K mg base W "up_in" 3 1 sp_up_in := by
  have sc := sc_up_in
  refine ⟨f, fd, ["field"], fn_d F sc (wb := w_up_in) (fun cdv A outer s H E hr => ?_) rd, hm, F.kp, F.bindsN fun _ _ _ _ _ _ us hl => match us, hl with | [_], _ => rfl⟩
  have hu64 := hr.units
  exact (ds_cons (ds_set (i := 1) sc.nd rfl (by first | exact Or.inl rfl | exact Or.inr rfl) (de_cal C_ups_in (hr.mono (by decide)) (by rfl) (db_cons (de_var 0) db_nil)))
    (ds_one (ds_ret (DF.de (df_callB (cf_sorted hu64) (by rfl) T.n_sorted PyProof.Rows.boot_sorted (dp_cons (DE.pk (DF.de (df_lc (own := [("lot", 2)]) rfl sc.nd (di_seq (de_cal C_lots_of (hr.mono (by decide)) (by rfl) (db_cons (de_ix (DE.pk (de_var 0)) de_int (fun _ _ => rfl)) db_nil))) (blkOk_by (sc := defScope s_up_in) (own := [("lot", 2)]) (N := N_up_in) (by decide +kernel)) (fun _ _ _ _ _ => (dg_name (i := 2) sc.nd rfl (by first | exact Or.inl rfl | exact Or.inr rfl))) (fun _ _ _ _ _ => (dts_one (dt_val (de_cal C_is_up_in (hr.mono (by decide)) (by rfl) (db_cons (de_var 1) (db_cons (de_var 2) db_nil)))))) (fun _ _ _ _ _ => (de_var 2))))) dp_nil))))))
theorem ok_next_level (T : Tx w K mg) {f : Addr} {fd : FuncData} (F : FnP K "next_level" s_next_level f fd) (hm : mg "next_level" = some (.ref f)) (C_mean_in : Cal P w K mg base W "mean_in" 3 2 sp_mean_in) (C_is_under : Cal P w K mg base W "is_under" 1 2 sp_is_under) (rd : ∀ bs Q, sp_next_level bs Q → w_next_level { nx := fun _ => Q .none, rt := Q } (bs ++ List.replicate (N_next_level.length - bs.length) .no)) : Cal P w K mg base W "next_level" 4 3 sp_next_level := by
  have sc := sc_next_level
  refine ⟨f, fd, ["field", "some", "known"], fn_d F sc (wb := w_next_level) (fun cdv A outer s H E hr => ?_) rd, hm, F.kp, F.bindsN fun _ _ _ _ _ _ us hl => match us, hl with | [_, _, _], _ => rfl⟩
  have hu64 := hr.units
  exact (ds_cons (ds_set (i := 3) sc.nd rfl (by first | exact Or.inl rfl | exact Or.inr rfl) de_non)
    (ds_cons (ds_for PassesOwn.never rfl (di_seq (de_var 1)) (dg_name (i := 4) sc.nd rfl (by first | exact Or.inl rfl | exact Or.inr rfl)) (ds_cons (ds_set (i := 5) sc.nd rfl (by first | exact Or.inl rfl | exact Or.inr rfl) (de_callT cp_tuple (by rfl) T.n_tuple PyProof.Rows.boot_tuple (dp_cons (DE.pk (DF.de (df_lc (own := [("one", 7)]) rfl sc.nd (di_seq (de_var 4)) (blkOk_by (sc := defScope s_next_level) (own := [("one", 7)]) (N := N_next_level) (by decide +kernel)) (fun _ _ _ _ _ => (dg_name (i := 7) sc.nd rfl (by first | exact Or.inl rfl | exact Or.inr rfl))) (fun _ _ _ _ _ => (dts_one (dt_cmpP (op_inP op_notIn_seq) (DE.pk (de_var 7)) (DE.pk (de_var 2)) (by rfl)))) (fun _ _ _ _ _ => (de_var 7))))) dp_nil)))
    (ds_cons (ds_set (i := 6) sc.nd rfl (by first | exact Or.inl rfl | exact Or.inr rfl) (de_tup (da_cons (de_cal C_mean_in (hr.mono (by decide)) (by rfl) (db_cons (de_var 0) (db_cons (de_var 5) db_nil))) (da_cons (de_var 5) da_nil))))
    (ds_one (ds_if (PW.pt (dw_or (dt_cmp od_isN (de_var 3) de_non (nomark _)) (dw_or1 (dt_val (de_cal C_is_under (hr.mono (by decide)) (by rfl) (db_cons (de_ix (DE.pk (de_var 3)) de_int (fun _ _ => rfl)) (db_cons (de_ix (DE.pk (de_var 6)) de_int (fun _ _ => rfl)) db_nil))))))) (ds_one (ds_set (i := 3) sc.nd rfl (by first | exact Or.inl rfl | exact Or.inr rfl) (de_var 6))) (ds_one (ds_if (PW.pt (dw_and (dt_cmpP (op_eqP hu64) (DE.pk (de_ix (DE.pk (de_var 3)) de_int (fun _ _ => rfl))) (DE.pk (de_ix (DE.pk (de_var 6)) de_int (fun _ _ => rfl))) (nomark _)) (dw_and1 (dt_cmp (od_lt) (de_callB cp_len (by rfl) T.n_len PySem.boot_len (dp_cons (DE.pk (de_ix (DE.pk (de_var 3)) de_int (fun _ _ => rfl))) dp_nil)) (de_callB cp_len (by rfl) T.n_len PySem.boot_len (dp_cons (DE.pk (de_var 5)) dp_nil)) (nomark _))))) (ds_one (ds_set (i := 3) sc.nd rfl (by first | exact Or.inl rfl | exact Or.inr rfl) (de_var 6))) ds_nil)))))))
    (ds_one (ds_ret (de_var 3)))))
theorem ok_levels_in (T : Tx w K mg) {f : Addr} {fd : FuncData} (F : FnP K "levels_in" s_levels_in f fd) (hm : mg "levels_in" = some (.ref f)) (C_up_in : Cal P w K mg base W "up_in" 3 1 sp_up_in) (C_next_level : Cal P w K mg base W "next_level" 4 3 sp_next_level) (rd : ∀ bs Q, sp_levels_in bs Q → w_levels_in { nx := fun _ => Q .none, rt := Q } (bs ++ List.replicate (N_levels_in.length - bs.length) .no)) : Cal P w K mg base W "levels_in" 5 1 sp_levels_in := by
  have sc := sc_levels_in
  refine ⟨f, fd, ["field"], fn_d F sc (wb := w_levels_in) (fun cdv A outer s H E hr => ?_) rd, hm, F.kp, F.bindsN fun _ _ _ _ _ _ us hl => match us, hl with | [_], _ => rfl⟩
  exact (ds_cons (ds_asg (de_tup (da_cons (DF.de (df_lst da_nil)) (da_cons (DF.de (df_lst da_nil)) (da_cons (de_cal C_up_in (hr.mono (by decide)) (by rfl) (db_cons (de_var 0) db_nil)) da_nil)))) (dg_tup rfl (dgs_cons (dg_name (i := 1) sc.nd rfl (by first | exact Or.inl rfl | exact Or.inr rfl)) (dgs_cons (dg_name (i := 2) sc.nd rfl (by first | exact Or.inl rfl | exact Or.inr rfl)) (dgs_cons (dg_name (i := 3) sc.nd rfl (by first | exact Or.inl rfl | exact Or.inr rfl)) dgs_nil)))))
    (ds_cons (ds_while PassesOwn.never (dt_cmp (od_lt) (de_callB cp_len (by rfl) T.n_len PySem.boot_len (dp_cons (DE.pk (de_var 2)) dp_nil)) (de_ix (DE.pk (de_var 0)) de_int (fun _ _ => rfl)) (nomark _)) (ds_cons (ds_setLcV (i := 4) (own := [("lot", 6)]) rfl sc.nd rfl rfl (sw_true rfl rfl rfl (by decide +kernel)) (di_seq (de_var 3)) (blkOk_by (sc := defScope s_levels_in) (own := [("lot", 6)]) (N := N_levels_in) (by decide +kernel)) (fun _ _ _ _ _ => (dg_name (i := 6) sc.nd rfl (by first | exact Or.inl rfl | exact Or.inr rfl))) (fun _ _ _ _ _ => (dts_one (PW.pt (dw_and (dt_cmp (od_gt) (de_callB cp_len (by rfl) T.n_len PySem.boot_len (dp_cons (DE.pk (de_var 6)) dp_nil)) (de_callB cp_len (by rfl) T.n_len PySem.boot_len (dp_cons (DE.pk (de_var 2)) dp_nil)) (nomark _)) (dw_and1 (dt_val (de_callB (cp_all rfl) (by rfl) T.n_all PyProof.Rows.boot_all (dp_cons (DE.pk (DF.de (df_lc (own := [("one", 7)]) rfl sc.nd (di_seq (de_var 2)) (blkOk_by (by rfl)) (fun _ _ _ _ _ => (dg_name (i := 7) sc.nd rfl (by first | exact Or.inl rfl | exact Or.inr rfl))) (fun _ _ _ _ _ => dts_nil) (fun _ _ _ _ _ => (de_cmpP (op_inP op_in_seq) (DE.pk (de_var 7)) (DE.pk (de_var 6)) (by rfl)))))) dp_nil)))))))) (fun _ _ _ _ _ => (de_var 6)))
    (ds_cons (ds_set (i := 5) sc.nd rfl (by first | exact Or.inl rfl | exact Or.inr rfl) (de_cal C_next_level (hr.mono (by decide)) (by rfl) (db_cons (de_var 0) (db_cons (de_var 4) (db_cons (de_var 2) db_nil)))))
    (ds_cons (ds_set (i := 1) sc.nd rfl (by first | exact Or.inl rfl | exact Or.inr rfl) (DF.de (df_lst (da_cons (de_var 5) (da_star (DE.pk (de_var 1)) da_nil)))))
    (ds_one (ds_set (i := 2) sc.nd rfl (by first | exact Or.inl rfl | exact Or.inr rfl) (DF.de (df_cat (DE.pk (de_var 2)) (DE.pk (DF.de (df_callT cf_list (by rfl) T.n_list PyProof.Rows.boot_list (dp_cons (DE.pk (de_ix (DE.pk (de_var 5)) de_int (fun _ _ => rfl))) dp_nil))))))))))))
    (ds_one (ds_ret (de_var 1)))))
theorem ok_table_by (T : Tx w K mg) {f : Addr} {fd : FuncData} (F : FnP K "table_by" s_table_by f fd) (hm : mg "table_by" = some (.ref f))  (rd : ∀ bs Q, sp_table_by bs Q → w_table_by { nx := fun _ => Q .none, rt := Q } (bs ++ List.replicate (N_table_by.length - bs.length) .no)) : Cal P w K mg base W "table_by" 1 1 sp_table_by := by
  have sc := sc_table_by
  refine ⟨f, fd, ["levels"], fn_d F sc (wb := w_table_by) (fun cdv A outer s H E hr => ?_) rd, hm, F.kp, F.bindsN fun _ _ _ _ _ _ us hl => match us, hl with | [_], _ => rfl⟩
  have hu1 := hu_of hr
  exact (ds_cons (ds_setDc2 (i := 1) (own := [("guess", 2), ("lot", 3), ("one", 4)]) (vs1 := [4]) sc.nd rfl (by first | exact Or.inl rfl | exact Or.inr rfl) rfl (di_seq (de_var 0)) (blkOk_by (sc := defScope s_table_by) (own := [("guess", 2), ("lot", 3), ("one", 4)]) (N := N_table_by) (by decide +kernel)) (by decide) (fun _ _ _ _ _ => (dg_tup rfl (dgs_cons (dg_name (i := 2) sc.nd rfl (by first | exact Or.inl rfl | exact Or.inr rfl)) (dgs_cons (dg_name (i := 3) sc.nd rfl (by first | exact Or.inl rfl | exact Or.inr rfl)) dgs_nil)))) (fun _ _ _ _ _ => (di_seq (de_var 3))) (fun _ _ _ _ _ => (dg_name (i := 4) sc.nd rfl (by first | exact Or.inl rfl | exact Or.inr rfl))) (fun _ _ _ _ _ => (de_var 4)) (fun _ _ _ _ _ => (de_var 2)))
    (ds_one (ds_ret (de_callT cp_tuple (by rfl) T.n_tuple PyProof.Rows.boot_tuple (dp_cons (DE.pk (DF.de (df_lc (own := [("one", 4)]) rfl sc.nd (di_rng (de_dlen 1 (by rfl) T.n_len) (by rfl) T.n_range) (blkOk_by (sc := defScope s_table_by) (own := [("one", 4)]) (N := N_table_by) (by decide +kernel)) (fun _ _ _ _ _ => (dg_name (i := 4) sc.nd rfl (by first | exact Or.inl rfl | exact Or.inr rfl))) (fun _ _ _ _ _ => dts_nil) (fun _ _ _ _ _ => (de_dget 1 hu1 (de_var 4) (fun _ _ => rfl)))))) dp_nil)))))
theorem ok_best_in (T : Tx w K mg) {f : Addr} {fd : FuncData} (F : FnP K "best_in" s_best_in f fd) (hm : mg "best_in" = some (.ref f)) (C_table_by : Cal P w K mg base W "table_by" 1 1 sp_table_by) (C_levels_in : Cal P w K mg base W "levels_in" 5 1 sp_levels_in) (rd : ∀ bs Q, sp_best_in bs Q → w_best_in { nx := fun _ => Q .none, rt := Q } (bs ++ List.replicate (N_best_in.length - bs.length) .no)) : Cal P w K mg base W "best_in" 6 1 sp_best_in := by
  have sc := sc_best_in
  refine ⟨f, fd, ["field"], fn_d F sc (wb := w_best_in) (fun cdv A outer s H E hr => ?_) rd, hm, F.kp, F.bindsN fun _ _ _ _ _ _ us hl => match us, hl with | [_], _ => rfl⟩
  exact (ds_one (ds_ret (de_cal C_table_by (hr.mono (by decide)) (by rfl) (db_cons (de_cal C_levels_in (hr.mono (by decide)) (by rfl) (db_cons (de_var 0) db_nil)) db_nil))))
theorem ok_best_table (T : Tx w K mg) {f : Addr} {fd : FuncData} (F : FnP K "best_table" s_best_table f fd) (hm : mg "best_table" = some (.ref f)) (C_best_in : Cal P w K mg base W "best_in" 6 1 sp_best_in) (C_need_field : Cal P w K mg base W "need_field" 5 1 sp_need_field) (rd : ∀ bs Q, sp_best_table bs Q → w_best_table { nx := fun _ => Q .none, rt := Q } (bs ++ List.replicate (N_best_table.length - bs.length) .no)) : Cal P w K mg base W "best_table" 7 1 sp_best_table := by
  have sc := sc_best_table
  refine ⟨f, fd, ["field"], fn_d F sc (wb := w_best_table) (fun cdv A outer s H E hr => ?_) rd, hm, F.kp, F.bindsN fun _ _ _ _ _ _ us hl => match us, hl with | [_], _ => rfl⟩
  exact (ds_one (ds_ret (de_cal C_best_in (hr.mono (by decide)) (by rfl) (db_cons (de_cal C_need_field (hr.mono (by decide)) (by rfl) (db_cons (de_var 0) db_nil)) db_nil))))
end Qp
set_option maxHeartbeats 2000000
namespace Qp
open PySem PySem.Spec PyProof.Rows L2 Qd
theorem rd_is_up_in : ∀ bs Q, sp_is_up_in bs Q → w_is_up_in { nx := fun _ => Q .none, rt := Q } (bs ++ List.replicate (N_is_up_in.length - bs.length) .no) := by
  rintro bs Q ⟨n, p, lot, hn, ok, rfl, q⟩
  have hll := lot_len ok
  refine ret_v (val_all nt (fun i => ((List.range n).filter (p i)).all fun j => lot.contains j) lot (by omega) (seqI_v (d := nts lot) rfl (var_v rfl)) (fun i hi Q q => g1_v ?_)) q
  refine val_all nt (fun j => lot.contains j) ((List.range n).filter (p i)) (by have := ups_row n (p i); omega) (seqI_v rfl (ix_ups (n := n) (p := p) (var_v rfl) (var_v rfl) (ok.lt i hi))) (fun j hj Q q => g1_v ?_) _ q
  exact in_nat (neg := false) (.inl rfl) (var_v rfl) (var_v rfl) _ q
theorem sum_v {α : Type} {wl : WP} {ρ : En} (f : α → Int) (xs : List α) (h : ValP wl ρ (xs.map fun x => .int (f x))) : Val (wCallB rSumD (wCons (wFz wl) wNil)) ρ (.int (xs.map f).sum) := fun Q q => h _ (by
  show (match intsD (xs.map fun x => PyData.int (f x)) with
    | some ns => Q (.int ns.sum)
    | none => False)
  rw [ints_map]
  exact q)
theorem sum_bd {f : Nat → Int} {c : Int} : ∀ {l : List Nat}, (∀ i ∈ l, 1 ≤ f i ∧ f i ≤ c) → (l.length : Int) ≤ (l.map f).sum ∧ (l.map f).sum ≤ l.length * c
  | [], _ => by simp
  | x :: l, h => by
    have h1 := h x List.mem_cons_self
    have h2 := sum_bd fun i hi => h i (List.mem_cons_of_mem x hi)
    rw [List.map_cons, List.sum_cons, List.length_cons, Int.natCast_add, Int.add_mul]
    omega
theorem seen_ok {F : Fld} (h : WF F) {i : Nat} (hi : i < F.n) : okSeen (F.s.getD i (0, 0)) = true := by
  have hl : i < F.s.length := by rw [h.s]; exact hi
  rw [List.getD_eq_getElem?_getD, List.getElem?_eq_getElem hl]
  exact h.ok _ (List.getElem_mem hl)
theorem okSeen_bd {x : Int × Int} (h : okSeen x = true) : -1000 ≤ x.1 ∧ x.1 ≤ 1000 ∧ 1 ≤ x.2 ∧ x.2 ≤ 1000 := by
  unfold okSeen at h
  simp only [Bool.and_eq_true, decide_eq_true_eq] at h
  omega
theorem pr0 {we : WE} {ρ : En} {x : Int × Int} (h : Val we ρ (ipr x)) : Val (wOp Qd.rIxD we (wC (.int 0))) ρ (.int x.1) := fun Q q => h _ ⟨_, rfl, q⟩
theorem pr1 {we : WE} {ρ : En} {x : Int × Int} (h : Val we ρ (ipr x)) : Val (wOp Qd.rIxD we (wC (.int 1))) ρ (.int x.2) := fun Q q => h _ ⟨_, rfl, q⟩
theorem rd_mean_in : ∀ bs Q, sp_mean_in bs Q → w_mean_in { nx := fun _ => Q .none, rt := Q } (bs ++ List.replicate (N_mean_in.length - bs.length) .no) := by
  rintro bs Q ⟨F, lot, h, ok, hne, rfl, q⟩
  have hll := lot_len ok
  have hn := h.n
  have hb : ∀ i ∈ lot, 1 ≤ (F.s.getD i (0, 0)).2 ∧ (F.s.getD i (0, 0)).2 ≤ 1000 := fun i hi => by
    have := okSeen_bd (seen_ok h (ok.lt i hi))
    omega
  have hlp : 1 ≤ lot.length := by
    cases lot with
    | nil => exact absurd rfl hne
    | cons _ _ => rw [List.length_cons]; omega
  obtain ⟨s1, s2⟩ := sum_bd hb
  have s3 : (lot.length : Int) * 1000 ≤ 10000 := by omega
  refine seq_set (d := .int (sumH F lot)) (sum_v (fun i => (F.s.getD i (0, 0)).2) lot (valP_lc nt _ lot (by omega) (seqI_v (d := nts lot) rfl (var_v rfl)) (fun i hi Q q => g1_v ?_))) ?_
  · exact pr1 (seen_v h (ok.lt i hi) (fld2 (F := F) (var_v rfl)) (var_v rfl)) _ q
  refine ret_c (call2_v (d := .int (sumW F lot)) (sum_v (fun i => (F.s.getD i (0, 0)).1 * (F.s.getD i (0, 0)).2) lot (valP_lc nt _ lot (by omega) (seqI_v (d := nts lot) rfl (var_v rfl)) (fun i hi Q q => g1_v ?_))) (var_v rfl) ⟨sumW F lot, sumH F lot, rfl, by unfold sumH; omega, by unfold sumH; omega, fun x h1 h2 h3 h4 => q x ⟨⟨h1, by unfold sumH at h2; omega, h3⟩, h4⟩⟩)
  refine mulI_v (a := (F.s.getD i (0, 0)).1) (b := (F.s.getD i (0, 0)).2) (pr0 (seen_v h (ok.lt i hi) (fld2 (F := F) (var_v rfl)) (var_v rfl))) (pr1 (seen_v h (ok.lt i hi) (fld2 (F := F) (var_v rfl)) (var_v rfl))) ?_ _ q
  have := hb i hi
  omega
theorem lots_len : ∀ n, (lotsL n).length = 2 ^ n
  | 0 => rfl
  | n + 1 => by
    show (lotsL n ++ (lotsL n).map fun l => l ++ [n]).length = _
    rw [List.length_append, List.length_map, lots_len n, Nat.pow_succ]
    omega
theorem range_at {pre post : List Nat} {n i : Nat} (h : pre ++ i :: post = List.range n) : i = pre.length := by
  have hl : pre.length < n := by
    have := congrArg List.length h
    rw [List.length_append, List.length_cons, List.length_range] at this
    omega
  have e : (pre ++ i :: post)[pre.length]? = (List.range n)[pre.length]? := by rw [h]
  rw [List.getElem?_append_right (Nat.le_refl _), Nat.sub_self, List.getElem?_range hl] at e
  exact Option.some.inj e
theorem cat_w {wa wb : WE} {ρ : En} {xs ys : List PyData} (ha : Val wa ρ (.list xs)) (hb : Val wb ρ (.list ys)) (hl : xs.length + ys.length ≤ 100000) : ValP (wCat wa wb) ρ (xs ++ ys) := fun Q q => ha _ (hb _ ⟨by rw [sizeLine_eq]; omega, q⟩)
theorem rd_lots_of : ∀ bs Q, sp_lots_of bs Q → w_lots_of { nx := fun _ => Q .none, rt := Q } (bs ++ List.replicate (N_lots_of.length - bs.length) .no) := by
  rintro bs Q ⟨n, hn, rfl, q⟩
  refine seq_set (d := .list [.tuple []]) (val_fz (lst_v (cons_v (tup_v nil_v (Nat.zero_le _)) nil_v) (by show 1 ≤ 1000; decide))) ?_
  refine seq_for (rng_v (n := n) (var_v rfl) (by omega)) ?_
  refine for_pre (all := List.range n) (fun (i : Nat) => PyData.int (i : Int)) (fun pre ρ => ∃ b2 b3, ρ = [.val (nt n), .val (.list ((lotsL pre.length).map nts)), b2, b3]) ?_ ?_ (pre := []) rfl ⟨.no, .no, rfl⟩
  · rintro pre i post ρ E1 he ⟨b2, b3, rfl⟩ hrt hnx -
    have hi := range_at he
    have hpl : pre.length < n := by
      have := congrArg List.length he
      rw [List.length_append, List.length_cons, List.length_range] at this
      omega
    have hl : (lotsL pre.length).length ≤ 512 := by
      rw [lots_len]
      exact Nat.pow_le_pow_right (by omega) (show pre.length ≤ 9 by omega)
    have hlo : ∀ l ∈ lotsL pre.length, l.length ≤ 10 := fun l hl => by
      have := lot_len (lots_ok hl)
      omega
    subst hi
    refine g1_v ?_
    have hc : Val (wFz (wCat (wVar 1) (wFz (wLc (wSeqI (wVar 1)) (wgName 3) wYes (wTup (wStar (wVar 3) (wCons (wVar 2) wNil))) [3])))) [.val (nt n), .val (.list ((lotsL pre.length).map nts)), .val (nt pre.length), b3] (.list ((lotsL (pre.length + 1)).map nts)) := by
      refine val_fz ?_
      show ValP _ _ ((lotsL pre.length ++ (lotsL pre.length).map fun l => l ++ [pre.length]).map nts)
      rw [List.map_append, List.map_map]
      refine cat_w (var_v rfl) (val_fz (valP_lc nts (fun l => nts (l ++ [pre.length])) _ (by omega) (seqI_v rfl (var_v rfl)) (fun l hl Q q => g1_v ?_))) (by rw [List.length_map, List.length_map]; omega)
      have := hlo l hl
      refine tup_v (star_v (es := l.map nt) (ds := [nt pre.length]) rfl (var_v (d := nts l) rfl) (cons_v (var_v rfl) nil_v)) (by rw [List.length_append, List.length_map, List.length_singleton]; omega) _ ?_
      rw [nts, List.map_append] at q
      exact q
    refine hc _ (hnx _ ⟨.val (nt pre.length), b3, ?_⟩)
    rw [List.length_append, List.length_singleton]
    rfl
  · rintro ρ ⟨b2, b3, rfl⟩
    rw [List.length_range]
    exact q
theorem perm_inv {α β : Type} {f : α → β} (g : β → α) (hg : ∀ x, g (f x) = x) {out : List β} {l : List α} (h : out.Perm (l.map f)) : ∃ l' : List α, l'.Perm l ∧ out = l'.map f := by
  refine ⟨out.map g, ?_, ?_⟩
  · have := h.map g
    rw [List.map_map] at this
    have e : l.map (g ∘ f) = l := (List.map_congr_left fun x _ => hg x).trans (List.map_id l)
    rw [e] at this
    exact this
  · rw [List.map_map]
    refine ((List.map_congr_left fun o ho => ?_).trans (List.map_id out)).symm
    obtain ⟨p, _, rfl⟩ := List.mem_map.mp (h.mem_iff.mp ho)
    show f (g (f p)) = f p
    rw [hg]
theorem intsT_nts (p : List Nat) : intsT (nts p) = castL p := by
  show (intsD (p.map fun (i : Nat) => PyData.int (i : Int))).getD [] = _
  rw [ints_map (fun (i : Nat) => (i : Int)) p]
  rfl
theorem tst_if {t : WT} {ρ : En} {b : Bool} {A B : Prop} (h : Tst t ρ b) (h1 : b = true → A) (h2 : b = false → B) : t ρ fun c => if c = true then A else B := h _ (by
  cases b
  · rw [if_neg (by simp)]
    exact h2 rfl
  · rw [if_pos rfl]
    exact h1 rfl)
theorem up_len (F : Fld) (h : WF F) : (upLots F).length ≤ 1024 := by
  have h1 : (upLots F).length ≤ (lotsL F.n).length := List.length_filter_le _ _
  rw [lots_len] at h1
  have h2 : 2 ^ F.n ≤ 2 ^ 10 := Nat.pow_le_pow_right (by omega) h.n
  omega
theorem up_ok {F : Fld} {l : List Nat} (h : l ∈ upLots F) : LotOk F.n l := lots_ok (List.mem_filter.mp h).1
theorem lots_head : ∀ n, ∃ r, lotsL n = [] :: r
  | 0 => ⟨[], rfl⟩
  | n + 1 => by
    obtain ⟨r, e⟩ := lots_head n
    exact ⟨r ++ (lotsL n).map fun l => l ++ [n], by
      show lotsL n ++ _ = _
      rw [e]
      rfl⟩
theorem up_head (F : Fld) : ∃ r, upLots F = [] :: r := by
  obtain ⟨r, e⟩ := lots_head F.n
  refine ⟨r.filter (isUpL F.n F.lt), ?_⟩
  unfold upLots
  rw [e, List.filter_cons_of_pos (by rfl)]
theorem ret_callF {r : RF} {we : WE} {E : WEnds} {ρ : En} {d : PyData} (h : Val we ρ d) (k : r [d] fun ds => E.rt (.list ds)) : wRet (wFz (wCallF r (wCons we wNil))) E ρ := h _ k
theorem rd_up_in : ∀ bs Q, sp_up_in bs Q → w_up_in { nx := fun _ => Q .none, rt := Q } (bs ++ List.replicate (N_up_in.length - bs.length) .no) := by
  rintro bs Q ⟨F, h, rfl, q⟩
  have hn := h.n
  refine seq_set (d := upsD F.n F.lt) (fun Q q => call1_v (var_v rfl) ⟨F, h, rfl, q⟩) ?_
  have hc : Val (wFz (wLc (wSeqI (wCall sp_lots_of 1 (wB (wOp Qd.rIxD (wVar 0) (wC (.int 0))) wB0))) (wgName 2) (wTst (wCall sp_is_up_in 2 (wB (wVar 1) (wB (wVar 2) wB0)))) (wVar 2) [2])) [.val (eF F), .val (upsD F.n F.lt), .no] (.list ((upLots F).map nts)) := by
    refine val_fz (valP_lcf nts (isUpL F.n F.lt) nts (lotsL F.n) ?_ (seqI_v (d := .list ((lotsL F.n).map nts)) rfl (fun Q q => call1_v (fld0 (F := F) (var_v rfl)) ⟨F.n, hn, rfl, q⟩)) (fun l hl Q1 Q2 h1 h2 => g1_v ?_))
    · rw [lots_len]
      exact Nat.pow_le_pow_right (by omega) hn
    · exact tst_if (b := isUpL F.n F.lt l) (val_tst fun Q q => call2_v (var_v rfl) (var_v rfl) ⟨F.n, F.lt, l, hn, lots_ok hl, rfl, q⟩) (fun e => var_v rfl _ (h1 e)) h2
  refine ret_callF hc ?_
  refine ⟨⟨?_, .inr ?_⟩, fun out hp hs => ?_⟩
  · rw [List.all_map]
    refine List.all_eq_true.mpr fun l _ => ?_
    show (intsD (l.map fun (i : Nat) => PyData.int (i : Int))).isSome = true
    rw [ints_map (fun (i : Nat) => (i : Int)) l]
    rfl
  · obtain ⟨r, e⟩ := up_head F
    rw [e]
    rfl
  · obtain ⟨L, hL, rfl⟩ := perm_inv (f := nts) (fun d => (intsT d).map Int.toNat) (fun p => by rw [intsT_nts, toNat_cast]) hp
    exact q L hL
end Qp
set_option maxHeartbeats 2000000
namespace Qp
open PySem PySem.Spec PyProof.Rows L2 Qd
theorem eqv_ipr (x y : Int × Int) : PyData.eqv (ipr x) (ipr y) = true → x = y := by
  intro h
  have h : (PyData.eqv (.int x.1) (.int y.1) && (PyData.eqv (.int x.2) (.int y.2) && true)) = true := by
    simpa [PyData.eqv, PyData.eqvAll] using h
  rw [eqv_int, eqv_int, Bool.and_eq_true, Bool.and_eq_true, decide_eq_true_eq, decide_eq_true_eq] at h
  exact Prod.ext h.1 h.2.1
theorem shaped_ipr (x : Int × Int) : SeqAt.shaped (ipr x) = true := by
  unfold SeqAt.shaped
  rw [lay_tup, lay_cons, lay_cons, lay_nil, lay_int, lay_int, dep_tup, dep_cons, dep_cons, dep_nil, dep_int, dep_int]
  rfl
theorem eqD_t {wa wb : WE} {ρ : En} {x y : PyData} (ha : Val wa ρ x) (hb : Val wb ρ y) (h1 : SeqAt.shaped x = true) (h2 : SeqAt.shaped y = true) : Tst (wTst (wOp rEqD wa wb)) ρ (PyData.eqv x y) := fun Q q => ha _ (hb _ ⟨⟨h1, h2⟩, q⟩)
theorem neD_t {wa wb : WE} {ρ : En} {x y : PyData} (ha : Val wa ρ x) (hb : Val wb ρ y) (h1 : SeqAt.shaped x = true) (h2 : SeqAt.shaped y = true) : Tst (wTst (wOp rNeD wa wb)) ρ (!PyData.eqv x y) := fun Q q => ha _ (hb _ ⟨⟨h1, h2⟩, q⟩)
theorem lev0 {we : WE} {ρ : En} {x : Lev} (h : Val we ρ (eL x)) : Val (wOp Qd.rIxD we (wC (.int 0))) ρ (ipr x.1) := fun Q q => h _ ⟨_, rfl, q⟩
theorem lev1 {we : WE} {ρ : En} {x : Lev} (h : Val we ρ (eL x)) : Val (wOp Qd.rIxD we (wC (.int 1))) ρ (nts x.2) := fun Q q => h _ ⟨_, rfl, q⟩
theorem sumH_pos {F : Fld} (h : WF F) {lot : List Nat} (ok : LotOk F.n lot) : 0 ≤ sumH F lot := by
  have hb : ∀ i ∈ lot, 1 ≤ (F.s.getD i (0, 0)).2 ∧ (F.s.getD i (0, 0)).2 ≤ 1000 := fun i hi => by
    have := okSeen_bd (seen_ok h (ok.lt i hi))
    omega
  have := (sum_bd hb).1
  unfold sumH
  omega
/-- the best so far -/
def BestI (F : Fld) (known : List Nat) (pre : List (List Nat)) (d : PyData) : Prop := (pre = [] ∧ d = .none) ∨ ∃ x : Lev, d = eL x ∧ IsNext F pre known x
theorem next_keep {F : Fld} {known lot : List Nat} {pre : List (List Nat)} {x : Lev} {y : Int × Int} (hH : 0 ≤ sumH F (restL known lot)) (hx : IsNext F pre known x) (hy : IsMean F (restL known lot) y) (hle : y.1 * x.1.2 ≤ x.1.1 * y.2) : IsNext F (pre ++ [lot]) known x := by
  obtain ⟨⟨l0, hl0, e0, m0⟩, hb⟩ := hx
  refine ⟨⟨l0, List.mem_append_left _ hl0, e0, m0⟩, fun l hl => ?_⟩
  rcases List.mem_append.mp hl with hl | hl
  · exact hb l hl
  · rw [List.mem_singleton.mp hl]
    obtain ⟨⟨p1, p2, p3⟩, p4⟩ := hy
    refine Int.le_of_mul_le_mul_right ?_ p1
    have e1 : sumW F (restL known lot) * x.1.2 * y.2 = y.1 * x.1.2 * sumH F (restL known lot) := by
      rw [Int.mul_right_comm, ← p4, Int.mul_right_comm]
    have e2 := Int.mul_le_mul_of_nonneg_right hle hH
    rw [e1]
    rw [Int.mul_right_comm x.1.1 _ y.2]
    exact e2
theorem next_new {F : Fld} {known lot : List Nat} {pre : List (List Nat)} {x : Lev} {y : Int × Int} (hH : ∀ l ∈ pre, 0 ≤ sumH F (restL known l)) (hx : IsNext F pre known x) (hy : IsMean F (restL known lot) y) (hle : x.1.1 * y.2 ≤ y.1 * x.1.2) : IsNext F (pre ++ [lot]) known (y, restL known lot) := by
  obtain ⟨⟨l0, hl0, e0, m0⟩, hb⟩ := hx
  refine ⟨⟨lot, List.mem_append_right _ List.mem_cons_self, rfl, hy⟩, fun l hl => ?_⟩
  rcases List.mem_append.mp hl with hl | hl
  · have h1 := hb l hl
    have x2 := m0.1.1
    have h3 := hH l hl
    show sumW F (restL known l) * y.2 ≤ y.1 * sumH F (restL known l)
    refine Int.le_of_mul_le_mul_right ?_ x2
    have y2 := hy.1.1
    have a1 := Int.mul_le_mul_of_nonneg_right h1 (Int.le_of_lt y2)
    have a2 := Int.mul_le_mul_of_nonneg_right hle h3
    have b1 : sumW F (restL known l) * y.2 * x.1.2 = sumW F (restL known l) * x.1.2 * y.2 := Int.mul_right_comm _ _ _
    have b2 : x.1.1 * sumH F (restL known l) * y.2 = x.1.1 * y.2 * sumH F (restL known l) := Int.mul_right_comm _ _ _
    have b3 : y.1 * sumH F (restL known l) * x.1.2 = y.1 * x.1.2 * sumH F (restL known l) := Int.mul_right_comm _ _ _
    omega
  · rw [List.mem_singleton.mp hl]
    rw [show sumW F (restL known lot) * (y, restL known lot).1.2 = (y, restL known lot).1.1 * sumH F (restL known lot) from hy.2.symm]
    exact Int.le_refl _
theorem next_first {F : Fld} {known lot : List Nat} {y : Int × Int} (hy : IsMean F (restL known lot) y) : IsNext F [lot] known (y, restL known lot) := by
  refine ⟨⟨lot, List.mem_cons_self, rfl, hy⟩, fun l hl => ?_⟩
  rw [List.mem_singleton.mp hl]
  rw [show sumW F (restL known lot) * (y, restL known lot).1.2 = (y, restL known lot).1.1 * sumH F (restL known lot) from hy.2.symm]
  exact Int.le_refl _
theorem seq_setQ {i : Nat} {we : WE} {rest : WS} {E : WEnds} {ρ : En} (k : we ρ fun d => rest E (ρ.set i (.val d))) : wSeq (wSet i we) rest E ρ := k
theorem rd_next_level : ∀ bs Q, sp_next_level bs Q → w_next_level { nx := fun _ => Q .none, rt := Q } (bs ++ List.replicate (N_next_level.length - bs.length) .no) := by
  rintro bs Q ⟨F, some, known, h, hne, hsl, hall, rfl, q⟩
  have hn := h.n
  refine seq_set (d := .none) c_v ?_
  refine seq_for (ds := some.map nts) (seqI_v rfl (var_v rfl)) ?_
  refine for_pre (all := some) nts (fun pre ρ => ∃ d b4 b5 b6 b7, ρ = [.val (eF F), .val (.list (some.map nts)), .val (.list (known.map nt)), .val d, b4, b5, b6, b7] ∧ BestI F known pre d) ?_ ?_ (pre := []) rfl ⟨.none, .no, .no, .no, .no, rfl, .inl ⟨rfl, rfl⟩⟩
  · rintro pre lot post ρ E1 he ⟨d, b4, b5, b6, b7, rfl, hb⟩ hrt hnx -
    have hlm : lot ∈ some := by rw [← he]; simp
    obtain ⟨ok, hr⟩ := hall lot hlm
    have okr := rest_ok ok known
    have hH := sumH_pos h okr
    have hHp : ∀ l ∈ pre, 0 ≤ sumH F (restL known l) := fun l hl => sumH_pos h (rest_ok (hall l (by rw [← he]; exact List.mem_append_left _ hl)).1 known)
    have hll := lot_len ok
    refine g1_v ?_
    have hc : Val (wCallB rTupD (wCons (wFz (wLc (wSeqI (wVar 4)) (wgName 7) (wTst (wOp (rInD true) (wVar 7) (wVar 2))) (wVar 7) [7])) wNil)) [.val (eF F), .val (.list (some.map nts)), .val (.list (known.map nt)), .val d, .val (nts lot), b5, b6, b7] (nts (restL known lot)) := by
      refine tup1 (val_fz (valP_lcf nt (fun i => !(known.contains i)) nt lot (by omega) (seqI_v (d := nts lot) rfl (var_v rfl)) (fun i hi Q1 Q2 h1 h2 => g1_v ?_)))
      exact tst_if (b := !(known.contains i)) (val_tst (in_nat (neg := true) (.inr rfl) (var_v rfl) (var_v rfl))) (fun e => var_v rfl _ (h1 e)) h2
    show wSeq _ _ E1 [.val (eF F), .val (.list (some.map nts)), .val (.list (known.map nt)), .val d, .val (nts lot), b5, b6, b7]
    refine seq_set hc ?_
    refine seq_setQ ?_
    refine call2_v (var_v rfl) (var_v rfl) ⟨F, restL known lot, h, okr, hr, rfl, fun y hy => ?_⟩
    refine ⟨by show 2 ≤ sizeLine; rw [sizeLine_eq]; decide, ?_⟩
    show wIfS _ _ _ E1 [.val (eF F), .val (.list (some.map nts)), .val (.list (known.map nt)), .val d, .val (nts lot), .val (nts (restL known lot)), .val (eL (y, restL known lot)), b7]
    rcases hb with ⟨rfl, rfl⟩ | ⟨x, rfl, hx⟩
    · refine if_t (or_t fun Q q => q) ?_
      exact var_v (d := eL (y, restL known lot)) rfl _ (hnx _ ⟨_, _, _, _, _, rfl, .inr ⟨_, rfl, next_first hy⟩⟩)
    · have x2 := hx.1.choose_spec.2.2.1
      have y2 := hy.1
      refine if_v (b := decide (x.1.1 * y.2 < y.1 * x.1.2)) (or_s (fun Q q => q) (val_tst fun Q q => call2_v (lev0 (x := x) (var_v rfl)) (lev0 (x := (y, restL known lot)) (var_v rfl)) ⟨x.1, y, rfl, ⟨x2.1, x2.2.1⟩, ⟨y2.1, y2.2.1⟩, q⟩)) (fun e => ?_) (fun e => ?_)
      · have e := of_decide_eq_true e
        exact var_v (d := eL (y, restL known lot)) rfl _ (hnx _ ⟨_, _, _, _, _, rfl, .inr ⟨_, rfl, next_new hHp hx hy (Int.le_of_lt e)⟩⟩)
      · have e := of_decide_eq_false e
        have keep := next_keep hH hx hy (by omega)
        refine if_v (and_v (eqD_t (lev0 (x := x) (var_v rfl)) (lev0 (x := (y, restL known lot)) (var_v rfl)) (shaped_ipr _) (shaped_ipr _)) fun _ => lt_b (len_v (d := nts x.2) (ds := x.2.map nt) rfl (lev1 (x := x) (var_v rfl))) (len_v (d := nts (restL known lot)) (ds := (restL known lot).map nt) rfl (var_v rfl)) rfl) (fun e2 => ?_) (fun e2 => ?_)
        · have exy := eqv_ipr x.1 y (Bool.and_eq_true _ _ ▸ e2).1
          exact var_v (d := eL (y, restL known lot)) rfl _ (hnx _ ⟨_, _, _, _, _, rfl, .inr ⟨_, rfl, next_new hHp hx hy (by rw [exy]; exact Int.le_refl _)⟩⟩)
        · exact hnx _ ⟨_, _, _, _, _, rfl, .inr ⟨x, rfl, keep⟩⟩
  · rintro ρ ⟨d, b4, b5, b6, b7, rfl, hb⟩
    rcases hb with ⟨e, _⟩ | ⟨x, rfl, hx⟩
    · exact absurd e hne
    · exact q x hx
end Qp
set_option maxHeartbeats 2000000
namespace Qp
open PySem PySem.Spec PyProof.Rows L2 Qd
theorem while_v {c : WT} {tb : WS} {E : WEnds} {ρ : En} (I : Nat → En → Prop) {m : Nat} (h0 : I m ρ)
    (h : ∀ m ρ, I m ρ → ∃ b, Tst c ρ b ∧ (b = false → E.nx ρ) ∧ (b = true → tb { E with nx := fun ρ' => ∃ m', m' < m ∧ I m' ρ', ct := fun ρ' => ∃ m', m' < m ∧ I m' ρ', bk := E.nx } ρ)) :
    wWhile c tb E ρ := by
  refine ⟨I, ⟨m, h0⟩, fun m ρ r => ?_⟩
  obtain ⟨b, e, h1, h2⟩ := h m ρ r
  exact tst_if e h2 h1
theorem seq_while {c : WT} {tb rest : WS} {E : WEnds} {ρ : En} (I : Nat → En → Prop) {m : Nat} (h0 : I m ρ)
    (h : ∀ m ρ, I m ρ → ∃ b, Tst c ρ b ∧ (b = false → rest E ρ) ∧ (b = true → tb { E with nx := fun ρ' => ∃ m', m' < m ∧ I m' ρ', ct := fun ρ' => ∃ m', m' < m ∧ I m' ρ', bk := rest E } ρ)) :
    wSeq (wWhile c tb) rest E ρ := while_v (E := { E with nx := rest E }) I h0 h
theorem rest_ne {n : Nat} {known lot : List Nat} (ok : LotOk n lot) (hl : known.length < lot.length) : restL known lot ≠ [] := fun e => by
  have : ∀ i ∈ lot, i ∈ known := fun i hi => by
    cases c : known.contains i with
    | true => exact List.contains_iff_mem.mp c
    | false =>
      have : i ∈ restL known lot := List.mem_filter.mpr ⟨hi, by rw [c]; rfl⟩
      rw [e] at this
      nomatch this
  have := List.Nodup.length_le_of_subset ok.nodup this
  omega
theorem full_up {F : Fld} (h : WF F) : List.range F.n ∈ upLots F := by
  have := up_lot h (U := fun _ => true) (fun _ _ _ _ => rfl)
  rwa [List.filter_eq_self.mpr (fun _ _ => rfl)] at this
theorem some_ne {F : Fld} (h : WF F) {L : List (List Nat)} (hL : L.Perm (upLots F)) {known : List Nat} (hlt : ∀ i ∈ known, i < F.n) (hl : known.length < F.n) : someL F L known ≠ [] := fun e => by
  have : List.range F.n ∈ someL F L known := List.mem_filter.mpr ⟨hL.mem_iff.mpr (full_up h), by
    rw [Bool.and_eq_true, decide_eq_true_eq, List.length_range]
    exact ⟨hl, List.all_eq_true.mpr fun i hi => List.contains_iff_mem.mpr (List.mem_range.mpr (hlt i hi))⟩⟩
  rw [e] at this
  nomatch this
def LvI (F : Fld) (L : List (List Nat)) (m : Nat) (ρ : En) : Prop := ∃ (lv : List Lev) (b4 b5 b6 b7 : Bd), ρ = [.val (eF F), .val (.list (lv.map eL)), .val (.list ((knownL lv).map nt)), .val (.list (L.map nts)), b4, b5, b6, b7] ∧ IsLevs F L lv ∧ m = F.n - (knownL lv).length ∧ lv.length ≤ (knownL lv).length
theorem rd_levels_in : ∀ bs Q, sp_levels_in bs Q → w_levels_in { nx := fun _ => Q .none, rt := Q } (bs ++ List.replicate (N_levels_in.length - bs.length) .no) := by
  rintro bs Q ⟨F, h, rfl, q⟩
  have hn := h.n
  refine ⟨Nat.zero_le _, Nat.zero_le _, rfl, F, h, rfl, fun L hL => ⟨by show 3 ≤ sizeLine; rw [sizeLine_eq]; decide, rfl, ?_⟩⟩
  have hLl : L.length ≤ 1024 := by rw [hL.length_eq]; exact up_len F h
  show wSeq (wWhile _ _) _ _ [.val (eF F), .val (.list []), .val (.list []), .val (.list (L.map nts)), .no, .no, .no, .no]
  refine seq_while (LvI F L) (m := _) ⟨[], .no, .no, .no, .no, rfl, trivial, rfl, Nat.le_refl _⟩ ?_
  rintro m ρ ⟨lv, b4, b5, b6, b7, rfl, hv, rfl, hlv⟩
  have I := li_of h hL hv
  refine ⟨decide ((knownL lv).length < F.n), ?_, fun e => ?_, fun e => ?_⟩
  · refine lt_b (len_v (d := .list ((knownL lv).map nt)) rfl (var_v rfl)) (fld0 (F := F) (var_v rfl)) ?_
    rw [List.length_map]
    by_cases c : (knownL lv).length < F.n
    · rw [decide_eq_true c, decide_eq_true (by omega)]
    · rw [decide_eq_false c, decide_eq_false (by omega)]
  · have e := of_decide_eq_false e
    exact q lv L hL hv (by omega)
  · have hk := of_decide_eq_true e
    have hsome : Val (wFz (wLc (wSeqI (wVar 3)) (wgName 6) (wAnd (wTst (wOp rGtI (wCallB Qd.rLen (wCons (wVar 6) wNil)) (wCallB Qd.rLen (wCons (wVar 2) wNil)))) (wTst (wCallB rAllD (wCons (wFz (wLc (wSeqI (wVar 2)) (wgName 7) wYes (wOp (rInD false) (wVar 7) (wVar 6)) [7])) wNil)))) (wVar 6) [6]))
        [.val (eF F), .val (.list (lv.map eL)), .val (.list ((knownL lv).map nt)), .val (.list (L.map nts)), b4, b5, b6, b7] (.list ((someL F L (knownL lv)).map nts)) := by
      refine val_fz (valP_lcf nts (fun lot => decide ((knownL lv).length < lot.length) && (knownL lv).all fun i => lot.contains i) nts L (by omega) (seqI_v rfl (var_v rfl)) (fun lot hl Q1 Q2 h1 h2 => g1_v ?_))
      refine tst_if (b := decide ((knownL lv).length < lot.length) && (knownL lv).all fun i => lot.contains i) (and_v (gt_b (len_v (d := nts lot) (ds := lot.map nt) rfl (var_v rfl)) (len_v (d := .list ((knownL lv).map nt)) rfl (var_v rfl)) ?_) fun _ => ?_) (fun e => var_v rfl _ (h1 e)) h2
      · rw [List.length_map, List.length_map]
        by_cases c : (knownL lv).length < lot.length
        · rw [decide_eq_true c, decide_eq_true (by omega)]
        · rw [decide_eq_false c, decide_eq_false (by omega)]
      · refine val_tst (val_all nt (fun i => lot.contains i) (knownL lv) (by omega) (seqI_v rfl (var_v rfl)) (fun i hi Q q => g1_v ?_))
        exact in_nat (neg := false) (.inl rfl) (var_v rfl) (var_v rfl) _ q
    refine seq_set hsome ?_
    refine seq_setQ (call3_v (var_v rfl) (var_v rfl) (var_v rfl) ⟨F, someL F L (knownL lv), knownL lv, h, some_ne h hL I.lt hk, ?_, fun lot hl => ?_, rfl, fun x hx => ?_⟩)
    · have : (someL F L (knownL lv)).length ≤ L.length := List.length_filter_le _ _
      omega
    · obtain ⟨hl1, hl2⟩ := List.mem_filter.mp hl
      have ok := up_ok (hL.mem_iff.mp hl1)
      rw [Bool.and_eq_true, decide_eq_true_eq] at hl2
      exact ⟨ok, rest_ne ok hl2.1⟩
    · have hx2 : LotOk F.n x.2 ∧ x.2 ≠ [] := by
        obtain ⟨⟨lot, hl, e, _⟩, _⟩ := hx
        obtain ⟨hl1, hl2⟩ := List.mem_filter.mp hl
        have ok := up_ok (hL.mem_iff.mp hl1)
        rw [Bool.and_eq_true, decide_eq_true_eq] at hl2
        rw [e]
        exact ⟨rest_ok ok _, rest_ne ok hl2.1⟩
      have hxl := lot_len hx2.1
      have hx1 : 1 ≤ x.2.length := by
        cases z : x.2 with
        | nil => exact absurd z hx2.2
        | cons _ _ => rw [List.length_cons]; omega
      show wSeq _ _ _ [.val (eF F), .val (.list (lv.map eL)), .val (.list ((knownL lv).map nt)), .val (.list (L.map nts)), .val (.list ((someL F L (knownL lv)).map nts)), .val (eL x), b6, b7]
      refine seq_set (d := .list ((x :: lv).map eL)) ?_ ?_
      · have := lst_v (ρ := [.val (eF F), .val (.list (lv.map eL)), .val (.list ((knownL lv).map nt)), .val (.list (L.map nts)), .val (.list ((someL F L (knownL lv)).map nts)), .val (eL x), b6, b7]) (cons_v (d := eL x) (we := wVar 5) (var_v rfl) (star_v (we := wVar 1) (d := .list (lv.map eL)) (ds := []) rfl (var_v rfl) nil_v)) (by rw [List.length_cons, List.length_append, List.length_map, List.length_nil]; omega)
        rw [List.append_nil] at this
        exact val_fz this
      have hc : Val (wFz (wCat (wVar 2) (wFz (wCallF rListD (wCons (wOp Qd.rIxD (wVar 5) (wC (.int 1))) wNil))))) [.val (eF F), .val (.list ((x :: lv).map eL)), .val (.list ((knownL lv).map nt)), .val (.list (L.map nts)), .val (.list ((someL F L (knownL lv)).map nts)), .val (eL x), b6, b7] (.list ((knownL (x :: lv)).map nt)) := by
        rw [known_cons, List.map_append]
        exact val_fz (cat_v (var_v rfl) (lst1 (lev1 (x := x) (var_v rfl))) (by rw [List.length_map, List.length_map]; omega))
      refine hc _ ?_
      refine ⟨F.n - (knownL (x :: lv)).length, ?_, x :: lv, .val (.list ((someL F L (knownL lv)).map nts)), .val (eL x), b6, b7, rfl, ⟨hv, hk, hx⟩, rfl, ?_⟩
      · rw [known_cons, List.length_append]
        omega
      · rw [known_cons, List.length_append, List.length_cons]
        omega
/-! ### table_by -/
theorem dc2_v {Q : List (Key × PyData) → Prop} (a : PyData) (b1 : Bd) (f : Nat → PyData) : ∀ {lv : List Lev} {ks : List Nat}, (ks ++ lv.flatMap (·.2)).Nodup → ks.length + (lv.flatMap (·.2)).length ≤ 1000 → (∀ x ∈ lv, ∀ k ∈ x.2, f k = ipr x.1) →
    Q ((ks ++ lv.flatMap (·.2)).map fun k => (keyN k, f k)) → wDc2L (wgTup 2 (wgCons (wgName 2) (wgCons (wgName 3) wgNil))) (wSeqI (wVar 3)) (wgName 4) (wVar 4) (wVar 2) [4] (lv.map eL) (ks.map fun k => (keyN k, f k)) [.val a, b1, .no, .no, .no] Q
  | [], ks, _, _, _, q => by
    rw [List.flatMap_nil, List.append_nil] at q
    exact q
  | x :: lv, ks, nd, hl, hf, q => by
    rw [List.flatMap_cons, ← List.append_assoc] at nd q
    rw [List.flatMap_cons, List.length_append] at hl
    rw [List.map_cons]
    have nd1 := (List.nodup_append.mp nd).1
    refine ⟨rfl, ?_⟩
    show wDcL (wgName 4) wYes (wVar 4) (wVar 2) (x.2.map nt) (ks.map fun k => (keyN k, f k)) [.val a, b1, .val (ipr x.1), .val (nts x.2), .no] _
    have e : x.2.map (fun k => k) = x.2 := List.map_id x.2
    refine dcL_v nt (fun k => k) f (xs := x.2) (ks := ks) (by rw [e]; exact nd1) (by omega) (fun k hk => ⟨[.val a, b1, .val (ipr x.1), .val (nts x.2), .val (nt k)], fun K z => z, var_v rfl, by rw [hf x List.mem_cons_self k hk]; exact var_v rfl⟩) ?_
    rw [e]
    exact dc2_v a b1 f (lv := lv) (ks := ks ++ x.2) nd (by rw [List.length_append]; omega) (fun y hy => hf y (List.mem_cons_of_mem _ hy)) q
theorem seq_dc2 {rest : WS} {E : WEnds} {lv : List Lev} (f : Nat → PyData) (nd : (lv.flatMap (·.2)).Nodup) (hl : (lv.flatMap (·.2)).length ≤ 1000) (hf : ∀ x ∈ lv, ∀ k ∈ x.2, f k = ipr x.1) (q : rest E [.val (.list (lv.map eL)), dKN f (lv.flatMap (·.2)), .no, .no, .no]) :
    wSeq (wSetDc2 1 (wSeqI (wVar 0)) (wgTup 2 (wgCons (wgName 2) (wgCons (wgName 3) wgNil))) (wSeqI (wVar 3)) (wgName 4) (wVar 4) (wVar 2) [2, 3, 4] [4]) rest E [.val (.list (lv.map eL)), .no, .no, .no, .no] :=
  dc2_v (.list (lv.map eL)) .no f (lv := lv) (ks := []) (by rw [List.nil_append]; exact nd) (by rw [List.length_nil]; omega) hf (by rw [List.nil_append]; exact q)
theorem known_flat (lv : List Lev) : knownL lv = (lv.reverse).flatMap (·.2) := by
  unfold knownL
  rw [List.flatMap_def]
theorem guess_at {lv : List Lev} (nd : (lv.flatMap (·.2)).Nodup) {x : Lev} (hx : x ∈ lv) {k : Nat} (hk : k ∈ x.2) : guessL lv k = x.1 := by
  unfold guessL
  cases e : lv.reverse.find? fun x => x.2.contains k with
  | none =>
    have := List.find?_eq_none.mp e x (List.mem_reverse.mpr hx)
    rw [List.contains_iff_mem.mpr hk] at this
    exact absurd rfl this
  | some y =>
    have h1 := List.mem_reverse.mp (List.mem_of_find?_eq_some e)
    have h2 := List.contains_iff_mem.mp (List.find?_some (p := fun x : Lev => x.2.contains k) e)
    show y.1 = x.1
    by_cases c : y = x
    · rw [c]
    · exfalso
      have := (List.pairwise_flatMap.mp nd).2
      have key : ∀ {l : List Lev}, l.Pairwise (fun a b => ∀ i ∈ a.2, ∀ j ∈ b.2, i ≠ j) → x ∈ l → y ∈ l → False := fun {l} => by
        induction l with
        | nil => exact fun _ h => nomatch h
        | cons z l ih =>
          intro hp hx hy
          obtain ⟨p1, p2⟩ := List.pairwise_cons.mp hp
          rcases List.mem_cons.mp hx with rfl | hx'
          · rcases List.mem_cons.mp hy with hy' | hy'
            · exact c hy'
            · exact p1 y hy' k hk k h2 rfl
          · rcases List.mem_cons.mp hy with rfl | hy'
            · exact p1 x hx' k h2 k hk rfl
            · exact ih p2 hx' hy'
      exact key this hx h1
theorem flat_rev_perm (lv : List Lev) : (lv.flatMap (·.2)).Perm (knownL lv) := by
  rw [known_flat]
  exact (List.reverse_perm lv).symm.flatMap_right _
theorem rd_table_by : ∀ bs Q, sp_table_by bs Q → w_table_by { nx := fun _ => Q .none, rt := Q } (bs ++ List.replicate (N_table_by.length - bs.length) .no) := by
  rintro bs Q ⟨n, lv, hn, hl, hp, rfl, q⟩
  have hp2 := (flat_rev_perm lv).trans hp
  have nd : (lv.flatMap (·.2)).Nodup := hp2.nodup_iff.mpr List.nodup_range
  have hlen : (lv.flatMap (·.2)).length = n := by rw [hp2.length_eq, List.length_range]
  refine seq_dc2 (fun k => ipr (guessL lv k)) nd (by omega) (fun x hx k hk => by rw [guess_at nd hx hk]) ?_
  refine ret_v (tup1 (val_fz (valP_lc (fun (i : Nat) => PyData.int (i : Int)) (fun i => ipr (guessL lv i)) (List.range n) (by rw [List.length_range]; omega) (rng_v (n := n) (fun Q q => ?_) (by omega)) (fun i hi Q q => g1_v ?_)))) ?_
  · show Q (.int (((lv.flatMap (·.2)).map fun k => (keyN k, ipr (guessL lv k))).length : Int))
    rw [List.length_map, hlen]
    exact q
  · exact dGt_N (ks := lv.flatMap (·.2)) (f := fun k => ipr (guessL lv k)) rfl (var_v rfl) (hp2.mem_iff.mpr hi) _ q
  · unfold eG at q
    rw [List.map_map] at q
    exact q
theorem rd_best_in : ∀ bs Q, sp_best_in bs Q → w_best_in { nx := fun _ => Q .none, rt := Q } (bs ++ List.replicate (N_best_in.length - bs.length) .no) := by
  rintro bs Q ⟨F, h, rfl, q⟩
  have hn := h.n
  refine ⟨rfl, F, h, rfl, fun lv L hL hv hge => ?_⟩
  have I := li_of h hL hv
  have hperm : (knownL lv).Perm (List.range F.n) := (List.perm_ext_iff_of_nodup I.nd List.nodup_range).mpr fun i => ⟨fun hi => List.mem_range.mpr (I.lt i hi), fun hi => known_all I hge (List.mem_range.mp hi)⟩
  refine ⟨rfl, F.n, lv, hn, ?_, hperm, rfl, q _ (levs_tab h hL hv hge)⟩
  have key : ∀ {lv : List Lev}, IsLevs F L lv → lv.length ≤ (knownL lv).length := fun {lv} => by
    induction lv with
    | nil => exact fun _ => Nat.le_refl _
    | cons x lv ih =>
      rintro ⟨h1, h2, ⟨lot, hl, e, _⟩, _⟩
      have := ih h1
      obtain ⟨hl1, hl2⟩ := List.mem_filter.mp hl
      have ok := up_ok (hL.mem_iff.mp hl1)
      rw [Bool.and_eq_true, decide_eq_true_eq] at hl2
      have hne : x.2 ≠ [] := by rw [e]; exact rest_ne ok hl2.1
      rw [known_cons, List.length_append, List.length_cons]
      cases z : x.2 with
      | nil => exact absurd z hne
      | cons _ _ => rw [List.length_cons]; omega
  have h1 := key hv
  rw [hperm.length_eq, List.length_range] at h1
  omega
theorem rd_best_table : ∀ bs Q, sp_best_table bs Q → w_best_table { nx := fun _ => Q .none, rt := Q } (bs ++ List.replicate (N_best_table.length - bs.length) .no) := by
  rintro bs Q ⟨F, h, rfl, q⟩
  exact ⟨rfl, F, h, rfl, rfl, F, h, rfl, q⟩
end Qp
set_option maxHeartbeats 4000000
namespace Qp
open PySem PySem.Spec PyProof.Rows L2 Qd
variable {P : Program} {w : World} {K : PySem.W.Frag} {mg : Str → Option Value} {base : Heap} {W : Wd}
abbrev N__law_closed : List Str := ["_law_size", "_law_ties", "_law_known", "_law_middle", "_law_low", "_law_high", "_law_pair"]
abbrev s__law_closed : Stmt := top 76
theorem sc__law_closed : FnScope N__law_closed ["_law_size", "_law_ties"] (defScope s__law_closed) := ⟨rfl, rfl, rfl, by decide +kernel, rfl, by decide +kernel, by decide +kernel⟩
def w__law_closed : WS := (wSeq (wSetDictT 2 (wLc (wSeqI (wVar 1)) (wgName 6) wYes (wTup (wCons (wVar 6) (wCons (wC (.bool true)) wNil))) [6]))
  (wSeq (wFor (wRng (wVar 0)) (wgName 3) (wFor (wRng (wVar 0)) (wgName 4) (wFor (wRng (wVar 0)) (wgName 5) (wIfS (wAnd (wTst (wDIn false 2 (wTup (wCons (wVar 4) (wCons (wVar 3) wNil))))) (wTst (wDIn false 2 (wTup (wCons (wVar 3) (wCons (wVar 5) wNil)))))) (wDPut 2 (wTup (wCons (wVar 4) (wCons (wVar 5) wNil))) (wC (.bool true))) wNext))))
  (wRet (wFz (wSortDT 2)))))
abbrev N__law_checked : List Str := ["_law_size", "_law_ties", "_law_seen", "_law_wrong", "_law_every", "_law_worth", "_law_heft", "_law_low", "_law_high"]
abbrev s__law_checked : Stmt := top 77
theorem sc__law_checked : FnScope N__law_checked ["_law_size", "_law_ties", "_law_seen"] (defScope s__law_checked) := ⟨rfl, rfl, rfl, by decide +kernel, rfl, by decide +kernel, by decide +kernel⟩
def w__law_checked : WS := (wSeq (wSet 3 (wFz (wLc (wSeqI (wVar 2)) (wgTup 2 (wgCons (wgName 5) (wgCons (wgName 6) wgNil))) (wOr (wNot (wTst (wChain rLeI rLeI (wUn rNegD (wC (.int 1000))) (wVar 5) (wC (.int 1000))))) (wNot (wTst (wChain rLeI rLeI (wC (.int 1)) (wVar 6) (wC (.int 1000)))))) (wC (.int 1)) [5, 6])))
  (wSeq (wIfS (wOr (wTst (wOp rGtI (wVar 0) (wC (.int 10)))) (wTst (wOp rNeD (wVar 3) (wFz (wLst wNil))))) (wRet (wC .none)) wNext)
  (wSeq (wSet 4 (wCall sp__law_closed 2 (wB (wVar 0) (wB (wVar 1) wB0))))
  (wRet (wIf (wTst (wOp rEqD (wFz (wLc (wSeqI (wVar 4)) (wgTup 2 (wgCons (wgName 7) (wgCons (wgName 8) wgNil))) (wTst (wOp rEqI (wVar 7) (wVar 8))) (wC (.int 1)) [7, 8])) (wFz (wLst wNil)))) (wTup (wCons (wVar 0) (wCons (wCallB rTupD (wCons (wVar 4) wNil)) (wCons (wCallB rTupD (wCons (wVar 2) wNil)) wNil)))) (wC .none))))))
abbrev N__law_two : List Str := ["_law_one_here", "_law_other", "_law_is_stacked", "_law_ties", "_law_low", "_law_high"]
abbrev s__law_two : Stmt := top 78
theorem sc__law_two : FnScope N__law_two ["_law_one_here", "_law_other", "_law_is_stacked"] (defScope s__law_two) := ⟨rfl, rfl, rfl, by decide +kernel, rfl, by decide +kernel, by decide +kernel⟩
def w__law_two : WS := (wSeq (wSet 3 (wFz (wCat (wFz (wCallF rListD (wCons (wOp rIxD (wVar 0) (wC (.int 1))) wNil))) (wFz (wLc (wSeqI (wOp rIxD (wVar 1) (wC (.int 1)))) (wgTup 2 (wgCons (wgName 4) (wgCons (wgName 5) wgNil))) wYes (wTup (wCons (wOp rAddI (wVar 4) (wOp rIxD (wVar 0) (wC (.int 0)))) (wCons (wOp rAddI (wVar 5) (wOp rIxD (wVar 0) (wC (.int 0)))) wNil))) [4, 5])))))
  (wSeq (wIfS (wTst (wVar 2)) (wFor (wRng (wOp rIxD (wVar 0) (wC (.int 0)))) (wgName 4) (wSet 3 (wFz (wCat (wVar 3) (wFz (wLc (wRng (wOp rIxD (wVar 1) (wC (.int 0)))) (wgName 5) wYes (wTup (wCons (wVar 4) (wCons (wOp rAddI (wOp rIxD (wVar 0) (wC (.int 0))) (wVar 5)) wNil))) [5])))))) wNext)
  (wRet (wCall sp__law_checked 3 (wB (wOp rAddI (wOp rIxD (wVar 0) (wC (.int 0))) (wOp rIxD (wVar 1) (wC (.int 0)))) (wB (wVar 3) (wB (wOp rAddT (wOp rIxD (wVar 0) (wC (.int 2))) (wOp rIxD (wVar 1) (wC (.int 2)))) wB0)))))))
abbrev N__law_one : List Str := ["_law_term_here", "_law_mine", "_law_word", "_law_size", "_law_ties", "_law_seen", "_law_at", "_law_kept", "_law_found", "_law_turn", "_law_low", "_law_high", "_law_worth", "_law_heft", "_law_one_here", "_law_spot"]
abbrev s__law_one : Stmt := top 79
theorem sc__law_one : FnScope N__law_one ["_law_term_here", "_law_mine"] (defScope s__law_one) := ⟨rfl, rfl, rfl, by decide +kernel, rfl, by decide +kernel, by decide +kernel⟩
def w__law_one : WS := (wSeq (wAsg (wTup (wCons (wOp rIxD (wVar 0) (wC (.int 0))) (wCons (wOp rIxD (wVar 1) (wC (.int 0))) (wCons (wFz (wCallF rListD (wCons (wOp rIxD (wVar 1) (wC (.int 1))) wNil))) (wCons (wOp rIxD (wVar 1) (wC (.int 2))) wNil))))) (wgTup 4 (wgCons (wgName 2) (wgCons (wgName 3) (wgCons (wgName 4) (wgCons (wgName 5) wgNil))))))
  (wSeq (wIfS (wTst (wOp rEqS (wVar 2) (wC (.str "turned")))) (wRet (wCall sp__law_checked 3 (wB (wVar 3) (wB (wFz (wLc (wSeqI (wVar 4)) (wgTup 2 (wgCons (wgName 10) (wgCons (wgName 11) wgNil))) wYes (wTup (wCons (wVar 11) (wCons (wVar 10) wNil))) [10, 11])) (wB (wFz (wLc (wSeqI (wVar 5)) (wgTup 2 (wgCons (wgName 12) (wgCons (wgName 13) wgNil))) wYes (wTup (wCons (wOp rSubI (wC (.int 0)) (wVar 12)) (wCons (wVar 13) wNil))) [12, 13])) wB0))))) wNext)
  (wSeq (wIfS (wTst (wOp rEqS (wVar 2) (wC (.str "moved")))) (wRet (wCall sp__law_checked 3 (wB (wVar 3) (wB (wVar 4) (wB (wFz (wLc (wSeqI (wVar 5)) (wgTup 2 (wgCons (wgName 12) (wgCons (wgName 13) wgNil))) wYes (wTup (wCons (wOp rAddI (wVar 12) (wOp rIxD (wVar 0) (wC (.int 2)))) (wCons (wVar 13) wNil))) [12, 13])) wB0))))) wNext)
  (wSeq (wIfS (wTst (wOp rEqS (wVar 2) (wC (.str "times")))) (wRet (wCall sp__law_checked 3 (wB (wVar 3) (wB (wVar 4) (wB (wFz (wLc (wSeqI (wVar 5)) (wgTup 2 (wgCons (wgName 12) (wgCons (wgName 13) wgNil))) wYes (wTup (wCons (wVar 12) (wCons (wOp rMulI (wVar 13) (wOp rIxD (wVar 0) (wC (.int 2)))) wNil))) [12, 13])) wB0))))) wNext)
  (wSeq (wIfS (wTst (wOp rEqS (wVar 2) (wC (.str "tied")))) (wRet (wIf (wTst (wOp rLtI (wCallB rMaxT (wCons (wCut (wVar 0) (some 2) none) wNil)) (wVar 3))) (wCall sp__law_checked 3 (wB (wVar 3) (wB (wFz (wCat (wVar 4) (wFz (wLst (wCons (wCut (wVar 0) (some 2) none) wNil))))) (wB (wVar 5) wB0)))) (wC .none))) wNext)
  (wSeq (wIfS (wTst (wOp rEqS (wVar 2) (wC (.str "only")))) (wSeq (wIfS (wTst (wOp rNeD (wFz (wLc (wSeqI (wOp rIxD (wVar 0) (wC (.int 2)))) (wgName 14) (wTst (wOp rGeI (wVar 14) (wVar 3))) (wC (.int 1)) [14])) (wFz (wLst wNil)))) (wRet (wC .none)) wNext)
  (wSeq (wSetDict 6 (wLc (wEnum (wOp rIxD (wVar 0) (wC (.int 2)))) (wgTup 2 (wgCons (wgName 15) (wgCons (wgName 14) wgNil))) wYes (wTup (wCons (wVar 14) (wCons (wVar 15) wNil))) [15, 14]))
  (wSeq (wSet 7 (wFz (wLc (wSeqI (wVar 4)) (wgTup 2 (wgCons (wgName 10) (wgCons (wgName 11) wgNil))) (wAnd (wTst (wDIn false 6 (wVar 10))) (wTst (wDIn false 6 (wVar 11)))) (wTup (wCons (wDGt 6 (wVar 10)) (wCons (wDGt 6 (wVar 11)) wNil))) [10, 11])))
  (wRet (wCall sp__law_checked 3 (wB (wCallB rLen (wCons (wOp rIxD (wVar 0) (wC (.int 2))) wNil)) (wB (wVar 7) (wB (wFz (wLc (wSeqI (wOp rIxD (wVar 0) (wC (.int 2)))) (wgName 14) wYes (wOp rIxD (wVar 5) (wVar 14)) [14])) wB0)))))))) wNext)
  (wSeq (wSet 8 (wVar 1))
  (wSeq (wFor (wRng (wOp rSubI (wOp rIxD (wVar 0) (wC (.int 2))) (wC (.int 1)))) (wgName 9) (wSet 8 (wIf (wTst (wOp rNotN (wVar 8) (wC .none))) (wCall sp__law_two 3 (wB (wVar 8) (wB (wVar 1) (wB (wC (.bool true)) wB0)))) (wC .none))))
  (wRet (wVar 8))))))))))
abbrev N__law_put : List Str := ["_law_term_here", "_law_some"]
abbrev s__law_put : Stmt := top 80
theorem sc__law_put : FnScope N__law_put ["_law_term_here", "_law_some"] (defScope s__law_put) := ⟨rfl, rfl, rfl, by decide +kernel, rfl, by decide +kernel, by decide +kernel⟩
def w__law_put : WS := (wSeq (wIfS (wTst (wOp (rInD false) (wOp rIxD (wVar 0) (wC (.int 0))) (wTup (wCons (wC (.str "thing")) (wCons (wC (.str "none")) wNil))))) (wRet (wIf (wTst (wOp rEqS (wOp rIxD (wVar 0) (wC (.int 0))) (wC (.str "thing")))) (wTup (wCons (wC (.int 1)) (wCons (wTup wNil) (wCons (wTup (wCons (wCut (wVar 0) (some 1) none) wNil)) wNil)))) (wTup (wCons (wC (.int 0)) (wCons (wTup wNil) (wCons (wTup wNil) wNil)))))) wNext)
  (wSeq (wIfS (wTst (wOp rEqI (wCallB rLen (wCons (wVar 1) wNil)) (wC (.int 2)))) (wRet (wCall sp__law_two 3 (wB (wOp rIxD (wVar 1) (wC (.int 0))) (wB (wOp rIxD (wVar 1) (wC (.int 1))) (wB (wOp rEqS (wOp rIxD (wVar 0) (wC (.int 0))) (wC (.str "below"))) wB0))))) wNext)
  (wRet (wCall sp__law_one 2 (wB (wVar 0) (wB (wOp rIxD (wVar 1) (wC (.int 0))) wB0))))))
abbrev N__law_kids : List Str := ["_law_term_here"]
abbrev s__law_kids : Stmt := top 82
theorem sc__law_kids : FnScope N__law_kids ["_law_term_here"] (defScope s__law_kids) := ⟨rfl, rfl, rfl, by decide +kernel, rfl, by decide +kernel, by decide +kernel⟩
def w__law_kids : WS := (wSeq (wIfS (wTst (wOp (rInD false) (wOp rIxD (wVar 0) (wC (.int 0))) (wTup (wCons (wC (.str "thing")) (wCons (wC (.str "none")) wNil))))) (wRet (wTup wNil)) wNext)
  (wRet (wIf (wTst (wOp (rInD false) (wOp rIxD (wVar 0) (wC (.int 0))) (wTup (wCons (wC (.str "beside")) (wCons (wC (.str "below")) wNil))))) (wCut (wVar 0) (some 1) (some 3)) (wCut (wVar 0) (some 1) (some 2)))))
abbrev N__law_facts_right : List Str := ["_law_term_here", "_law_made", "_law_other", "_law_far", "_law_mine", "_law_yours", "_law_both", "_law_falls", "_law_near", "_law_high"]
abbrev s__law_facts_right : Stmt := top 83
theorem sc__law_facts_right : FnScope N__law_facts_right ["_law_term_here", "_law_made", "_law_other", "_law_far"] (defScope s__law_facts_right) := ⟨rfl, rfl, rfl, by decide +kernel, rfl, by decide +kernel, by decide +kernel⟩
def w__law_facts_right : WS := (wSeq (wPar 4 5 (wCall sp_best_table 1 (wB (wVar 1) wB0)) (wCall sp_best_table 1 (wB (wVar 3) wB0)))
  (wSeq (wSet 6 (wCall sp__law_two 3 (wB (wVar 1) (wB (wVar 3) (wB (wC (.bool false)) wB0)))))
  (wSeq (wIfS (wAnd (wTst (wOp rNotN (wVar 6) (wC .none))) (wTst (wOp rNeD (wCall sp_best_table 1 (wB (wCall sp_field_of 1 (wB (wTup (wCons (wC (.str "beside")) (wCons (wVar 0) (wCons (wVar 2) wNil)))) wB0)) wB0)) (wOp rAddT (wVar 4) (wVar 5))))) (wRet (wC (.bool false))) wNext)
  (wSeq (wSet 7 (wFz (wLst wNil)))
  (wSeq (wFor (wSeqI (wVar 4)) (wgName 8) (wSet 7 (wFz (wCat (wVar 7) (wFz (wLc (wSeqI (wVar 5)) (wgName 9) (wTst (wOp rGtI (wOp rMulI (wOp rIxD (wVar 8) (wC (.int 0))) (wOp rIxD (wVar 9) (wC (.int 1)))) (wOp rMulI (wOp rIxD (wVar 9) (wC (.int 0))) (wOp rIxD (wVar 8) (wC (.int 1)))))) (wC (.int 1)) [9]))))))
  (wSeq (wIfS (wAnd (wTst (wOp rNotN (wVar 6) (wC .none))) (wAnd (wTst (wOp rEqD (wVar 7) (wFz (wLst wNil)))) (wTst (wOp rNeD (wCall sp_best_table 1 (wB (wCall sp_field_of 1 (wB (wTup (wCons (wC (.str "below")) (wCons (wVar 0) (wCons (wVar 2) wNil)))) wB0)) wB0)) (wOp rAddT (wVar 4) (wVar 5)))))) (wRet (wC (.bool false))) wNext)
  (wRet (wOp rEqD (wCall sp_best_table 1 (wB (wCall sp_field_of 1 (wB (wTup (wCons (wC (.str "times")) (wCons (wVar 0) (wCons (wC (.int 3)) wNil)))) wB0)) wB0)) (wVar 4)))))))))
abbrev N__law_term_right : List Str := ["_law_term_here", "_law_made", "_law_kept", "_law_twice", "_law_told"]
abbrev s__law_term_right : Stmt := top 84
theorem sc__law_term_right : FnScope N__law_term_right ["_law_term_here", "_law_made"] (defScope s__law_term_right) := ⟨rfl, rfl, rfl, by decide +kernel, rfl, by decide +kernel, by decide +kernel⟩
def w__law_term_right : WS := (wSeq (wSet 2 (wCallB rReprD (wCons (wVar 0) wNil)))
  (wSeq (wFor (wRng (wC (.int 2))) (wgName 3) (wSeq (wSet 4 (wFz (wLst (wCons (wCall sp_need_term 1 (wB (wVar 0) wB0)) (wCons (wCall sp_field_of 1 (wB (wVar 0) wB0)) (wCons (wCall sp_kids_of 1 (wB (wVar 0) wB0)) (wCons (wCall sp_need_field 1 (wB (wCall sp_field_of 1 (wB (wVar 0) wB0)) wB0)) wNil)))))))
  (wIfS (wTst (wOp rNeS (wCallB rReprD (wCons (wVar 4) wNil)) (wCallB rReprD (wCons (wFz (wLst (wCons (wVar 0) (wCons (wVar 1) (wCons (wCall sp__law_kids 1 (wB (wVar 0) wB0)) (wCons (wVar 1) wNil)))))) wNil)))) (wRet (wC (.bool false))) wNext)))
  (wRet (wOp rEqS (wCallB rReprD (wCons (wVar 0) wNil)) (wVar 2)))))
theorem ok__law_closed (T : Tx w K mg) {f : Addr} {fd : FuncData} (F : FnP K "_law_closed" s__law_closed f fd) (hm : mg "_law_closed" = some (.ref f))  (rd : ∀ bs Q, sp__law_closed bs Q → w__law_closed { nx := fun _ => Q .none, rt := Q } (bs ++ List.replicate (N__law_closed.length - bs.length) .no)) : Cal P w K mg base W "_law_closed" 1 2 sp__law_closed := by
  have sc := sc__law_closed
  refine ⟨f, fd, ["_law_size", "_law_ties"], fn_d F sc (wb := w__law_closed) (fun cdv A outer s H E hr => ?_) rd, hm, F.kp, F.bindsN fun _ _ _ _ _ _ us hl => match us, hl with | [_, _], _ => rfl⟩
  have hu64 := hr.units
  have hu1 := hu_of hr
  exact (ds_cons (ds_setDictT (i := 2) sc.nd rfl (by first | exact Or.inl rfl | exact Or.inr rfl) rfl hu64 (by rfl) T.n_dict (df_lc (own := [("_law_pair", 6)]) rfl sc.nd (di_seq (de_var 1)) (blkOk_by (sc := defScope s__law_closed) (own := [("_law_pair", 6)]) (N := N__law_closed) (by decide +kernel)) (fun _ _ _ _ _ => (dg_name (i := 6) sc.nd rfl (by first | exact Or.inl rfl | exact Or.inr rfl))) (fun _ _ _ _ _ => dts_nil) (fun _ _ _ _ _ => (de_tup (da_cons (de_var 6) (da_cons de_bl da_nil))))))
    (ds_cons (ds_for PassesOwn.never rfl (di_rng (de_var 0) (by rfl) T.n_range) (dg_name (i := 3) sc.nd rfl (by first | exact Or.inl rfl | exact Or.inr rfl)) (ds_one (ds_for PassesOwn.never rfl (di_rng (de_var 0) (by rfl) T.n_range) (dg_name (i := 4) sc.nd rfl (by first | exact Or.inl rfl | exact Or.inr rfl)) (ds_one (ds_for PassesOwn.never rfl (di_rng (de_var 0) (by rfl) T.n_range) (dg_name (i := 5) sc.nd rfl (by first | exact Or.inl rfl | exact Or.inr rfl)) (ds_one (ds_if (PW.pt (dw_and (dt_din 2 hu1 (de_tup (da_cons (de_var 4) (da_cons (de_var 3) da_nil)))) (dw_and1 (dt_din 2 hu1 (de_tup (da_cons (de_var 3) (da_cons (de_var 5) da_nil))))))) (ds_one (ds_dput 2 hu1 (de_tup (da_cons (de_var 4) (da_cons (de_var 5) da_nil))) de_bl)) ds_nil)))))))
    (ds_one (ds_ret (DF.de (df_sortDT 2 hu64 rfl (by rfl) T.n_sorted))))))
theorem ok__law_checked (T : Tx w K mg) {f : Addr} {fd : FuncData} (F : FnP K "_law_checked" s__law_checked f fd) (hm : mg "_law_checked" = some (.ref f)) (C__law_closed : Cal P w K mg base W "_law_closed" 1 2 sp__law_closed) (rd : ∀ bs Q, sp__law_checked bs Q → w__law_checked { nx := fun _ => Q .none, rt := Q } (bs ++ List.replicate (N__law_checked.length - bs.length) .no)) : Cal P w K mg base W "_law_checked" 2 3 sp__law_checked := by
  have sc := sc__law_checked
  refine ⟨f, fd, ["_law_size", "_law_ties", "_law_seen"], fn_d F sc (wb := w__law_checked) (fun cdv A outer s H E hr => ?_) rd, hm, F.kp, F.bindsN fun _ _ _ _ _ _ us hl => match us, hl with | [_, _, _], _ => rfl⟩
  have hu64 := hr.units
  exact (ds_cons (ds_setLcV (i := 3) (own := [("_law_worth", 5), ("_law_heft", 6)]) rfl sc.nd rfl rfl (sw_true rfl rfl rfl (by decide +kernel)) (di_seq (de_var 2)) (blkOk_by (sc := defScope s__law_checked) (own := [("_law_worth", 5), ("_law_heft", 6)]) (N := N__law_checked) (by decide +kernel)) (fun _ _ _ _ _ => (dg_tup rfl (dgs_cons (dg_name (i := 5) sc.nd rfl (by first | exact Or.inl rfl | exact Or.inr rfl)) (dgs_cons (dg_name (i := 6) sc.nd rfl (by first | exact Or.inl rfl | exact Or.inr rfl)) dgs_nil)))) (fun _ _ _ _ _ => (dts_one (PW.pt (dw_or (dt_not (dt_chain od_le od_le (de_neg de_int) (de_var 5) de_int)) (dw_or1 (dt_not (dt_chain od_le od_le de_int (de_var 6) de_int))))))) (fun _ _ _ _ _ => de_int))
    (ds_cons (ds_if (PW.pt (dw_or (dt_cmp (od_gt) (de_var 0) de_int (nomark _)) (dw_or1 (dt_cmpP (op_neP hu64) (DE.pk (de_var 3)) (DE.pk (DF.de (df_lst da_nil))) (nomark _))))) (ds_one (ds_ret de_non)) ds_nil)
    (ds_cons (ds_set (i := 4) sc.nd rfl (by first | exact Or.inl rfl | exact Or.inr rfl) (de_cal C__law_closed (hr.mono (by decide)) (by rfl) (db_cons (de_var 0) (db_cons (de_var 1) db_nil))))
    (ds_one (ds_ret (de_if (dt_cmpP (op_eqP hu64) (DE.pk (DF.de (df_lc (own := [("_law_low", 7), ("_law_high", 8)]) rfl sc.nd (di_seq (de_var 4)) (blkOk_by (sc := defScope s__law_checked) (own := [("_law_low", 7), ("_law_high", 8)]) (N := N__law_checked) (by decide +kernel)) (fun _ _ _ _ _ => (dg_tup rfl (dgs_cons (dg_name (i := 7) sc.nd rfl (by first | exact Or.inl rfl | exact Or.inr rfl)) (dgs_cons (dg_name (i := 8) sc.nd rfl (by first | exact Or.inl rfl | exact Or.inr rfl)) dgs_nil)))) (fun _ _ _ _ _ => (dts_one (dt_cmp od_eqI (de_var 7) (de_var 8) (nomark _)))) (fun _ _ _ _ _ => de_int)))) (DE.pk (DF.de (df_lst da_nil))) (nomark _)) (de_tup (da_cons (de_var 0) (da_cons (de_callT cp_tuple (by rfl) T.n_tuple PyProof.Rows.boot_tuple (dp_cons (DE.pk (de_var 4)) dp_nil)) (da_cons (de_callT cp_tuple (by rfl) T.n_tuple PyProof.Rows.boot_tuple (dp_cons (DE.pk (de_var 2)) dp_nil)) da_nil)))) de_non))))))
theorem ok__law_two (T : Tx w K mg) {f : Addr} {fd : FuncData} (F : FnP K "_law_two" s__law_two f fd) (hm : mg "_law_two" = some (.ref f)) (C__law_checked : Cal P w K mg base W "_law_checked" 2 3 sp__law_checked) (rd : ∀ bs Q, sp__law_two bs Q → w__law_two { nx := fun _ => Q .none, rt := Q } (bs ++ List.replicate (N__law_two.length - bs.length) .no)) : Cal P w K mg base W "_law_two" 3 3 sp__law_two := by
  have sc := sc__law_two
  refine ⟨f, fd, ["_law_one_here", "_law_other", "_law_is_stacked"], fn_d F sc (wb := w__law_two) (fun cdv A outer s H E hr => ?_) rd, hm, F.kp, F.bindsN fun _ _ _ _ _ _ us hl => match us, hl with | [_, _, _], _ => rfl⟩
  exact (ds_cons (ds_set (i := 3) sc.nd rfl (by first | exact Or.inl rfl | exact Or.inr rfl) (DF.de (df_cat (DE.pk (DF.de (df_callT cf_list (by rfl) T.n_list PyProof.Rows.boot_list (dp_cons (DE.pk (de_ix (DE.pk (de_var 0)) de_int (fun _ _ => rfl))) dp_nil)))) (DE.pk (DF.de (df_lc (own := [("_law_low", 4), ("_law_high", 5)]) rfl sc.nd (di_seq (de_ix (DE.pk (de_var 1)) de_int (fun _ _ => rfl))) (blkOk_by (sc := defScope s__law_two) (own := [("_law_low", 4), ("_law_high", 5)]) (N := N__law_two) (by decide +kernel)) (fun _ _ _ _ _ => (dg_tup rfl (dgs_cons (dg_name (i := 4) sc.nd rfl (by first | exact Or.inl rfl | exact Or.inr rfl)) (dgs_cons (dg_name (i := 5) sc.nd rfl (by first | exact Or.inl rfl | exact Or.inr rfl)) dgs_nil)))) (fun _ _ _ _ _ => dts_nil) (fun _ _ _ _ _ => (de_tup (da_cons (de_bin od_add (de_var 4) (de_ix (DE.pk (de_var 0)) de_int (fun _ _ => rfl))) (da_cons (de_bin od_add (de_var 5) (de_ix (DE.pk (de_var 0)) de_int (fun _ _ => rfl))) da_nil))))))))))
    (ds_cons (ds_if (dt_val (de_var 2)) (ds_one (ds_for PassesOwn.never rfl (di_rng (de_ix (DE.pk (de_var 0)) de_int (fun _ _ => rfl)) (by rfl) T.n_range) (dg_name (i := 4) sc.nd rfl (by first | exact Or.inl rfl | exact Or.inr rfl)) (ds_one (ds_set (i := 3) sc.nd rfl (by first | exact Or.inl rfl | exact Or.inr rfl) (DF.de (df_cat (DE.pk (de_var 3)) (DE.pk (DF.de (df_lc (own := [("_law_high", 5)]) rfl sc.nd (di_rng (de_ix (DE.pk (de_var 1)) de_int (fun _ _ => rfl)) (by rfl) T.n_range) (blkOk_by (sc := defScope s__law_two) (own := [("_law_high", 5)]) (N := N__law_two) (by decide +kernel)) (fun _ _ _ _ _ => (dg_name (i := 5) sc.nd rfl (by first | exact Or.inl rfl | exact Or.inr rfl))) (fun _ _ _ _ _ => dts_nil) (fun _ _ _ _ _ => (de_tup (da_cons (de_var 4) (da_cons (de_bin od_add (de_ix (DE.pk (de_var 0)) de_int (fun _ _ => rfl)) (de_var 5)) da_nil))))))))))))) ds_nil)
    (ds_one (ds_ret (de_cal C__law_checked (hr.mono (by decide)) (by rfl) (db_cons (de_bin od_add (de_ix (DE.pk (de_var 0)) de_int (fun _ _ => rfl)) (de_ix (DE.pk (de_var 1)) de_int (fun _ _ => rfl))) (db_cons (de_var 3) (db_cons (de_bin od_addT (de_ix (DE.pk (de_var 0)) de_int (fun _ _ => rfl)) (de_ix (DE.pk (de_var 1)) de_int (fun _ _ => rfl))) db_nil))))))))
theorem ok__law_one (T : Tx w K mg) {f : Addr} {fd : FuncData} (F : FnP K "_law_one" s__law_one f fd) (hm : mg "_law_one" = some (.ref f)) (C__law_checked : Cal P w K mg base W "_law_checked" 2 3 sp__law_checked) (C__law_two : Cal P w K mg base W "_law_two" 3 3 sp__law_two) (rd : ∀ bs Q, sp__law_one bs Q → w__law_one { nx := fun _ => Q .none, rt := Q } (bs ++ List.replicate (N__law_one.length - bs.length) .no)) : Cal P w K mg base W "_law_one" 4 2 sp__law_one := by
  have sc := sc__law_one
  refine ⟨f, fd, ["_law_term_here", "_law_mine"], fn_d F sc (wb := w__law_one) (fun cdv A outer s H E hr => ?_) rd, hm, F.kp, F.bindsN fun _ _ _ _ _ _ us hl => match us, hl with | [_, _], _ => rfl⟩
  have hu64 := hr.units
  have hu1 := hu_of hr
  exact (ds_cons (ds_asg (de_tup (da_cons (de_ix (DE.pk (de_var 0)) de_int (fun _ _ => rfl)) (da_cons (de_ix (DE.pk (de_var 1)) de_int (fun _ _ => rfl)) (da_cons (DF.de (df_callT cf_list (by rfl) T.n_list PyProof.Rows.boot_list (dp_cons (DE.pk (de_ix (DE.pk (de_var 1)) de_int (fun _ _ => rfl))) dp_nil))) (da_cons (de_ix (DE.pk (de_var 1)) de_int (fun _ _ => rfl)) da_nil))))) (dg_tup rfl (dgs_cons (dg_name (i := 2) sc.nd rfl (by first | exact Or.inl rfl | exact Or.inr rfl)) (dgs_cons (dg_name (i := 3) sc.nd rfl (by first | exact Or.inl rfl | exact Or.inr rfl)) (dgs_cons (dg_name (i := 4) sc.nd rfl (by first | exact Or.inl rfl | exact Or.inr rfl)) (dgs_cons (dg_name (i := 5) sc.nd rfl (by first | exact Or.inl rfl | exact Or.inr rfl)) dgs_nil))))))
    (ds_cons (ds_if (dt_cmp od_eqS (de_var 2) de_str (nomark _)) (ds_one (ds_ret (de_cal C__law_checked (hr.mono (by decide)) (by rfl) (db_cons (de_var 3) (db_cons (DF.de (df_lc (own := [("_law_low", 10), ("_law_high", 11)]) rfl sc.nd (di_seq (de_var 4)) (blkOk_by (sc := defScope s__law_one) (own := [("_law_low", 10), ("_law_high", 11)]) (N := N__law_one) (by decide +kernel)) (fun _ _ _ _ _ => (dg_tup rfl (dgs_cons (dg_name (i := 10) sc.nd rfl (by first | exact Or.inl rfl | exact Or.inr rfl)) (dgs_cons (dg_name (i := 11) sc.nd rfl (by first | exact Or.inl rfl | exact Or.inr rfl)) dgs_nil)))) (fun _ _ _ _ _ => dts_nil) (fun _ _ _ _ _ => (de_tup (da_cons (de_var 11) (da_cons (de_var 10) da_nil)))))) (db_cons (DF.de (df_lc (own := [("_law_worth", 12), ("_law_heft", 13)]) rfl sc.nd (di_seq (de_var 5)) (blkOk_by (sc := defScope s__law_one) (own := [("_law_worth", 12), ("_law_heft", 13)]) (N := N__law_one) (by decide +kernel)) (fun _ _ _ _ _ => (dg_tup rfl (dgs_cons (dg_name (i := 12) sc.nd rfl (by first | exact Or.inl rfl | exact Or.inr rfl)) (dgs_cons (dg_name (i := 13) sc.nd rfl (by first | exact Or.inl rfl | exact Or.inr rfl)) dgs_nil)))) (fun _ _ _ _ _ => dts_nil) (fun _ _ _ _ _ => (de_tup (da_cons (de_bin od_sub de_int (de_var 12)) (da_cons (de_var 13) da_nil)))))) db_nil)))))) ds_nil)
    (ds_cons (ds_if (dt_cmp od_eqS (de_var 2) de_str (nomark _)) (ds_one (ds_ret (de_cal C__law_checked (hr.mono (by decide)) (by rfl) (db_cons (de_var 3) (db_cons (de_var 4) (db_cons (DF.de (df_lc (own := [("_law_worth", 12), ("_law_heft", 13)]) rfl sc.nd (di_seq (de_var 5)) (blkOk_by (sc := defScope s__law_one) (own := [("_law_worth", 12), ("_law_heft", 13)]) (N := N__law_one) (by decide +kernel)) (fun _ _ _ _ _ => (dg_tup rfl (dgs_cons (dg_name (i := 12) sc.nd rfl (by first | exact Or.inl rfl | exact Or.inr rfl)) (dgs_cons (dg_name (i := 13) sc.nd rfl (by first | exact Or.inl rfl | exact Or.inr rfl)) dgs_nil)))) (fun _ _ _ _ _ => dts_nil) (fun _ _ _ _ _ => (de_tup (da_cons (de_bin od_add (de_var 12) (de_ix (DE.pk (de_var 0)) de_int (fun _ _ => rfl))) (da_cons (de_var 13) da_nil)))))) db_nil)))))) ds_nil)
    (ds_cons (ds_if (dt_cmp od_eqS (de_var 2) de_str (nomark _)) (ds_one (ds_ret (de_cal C__law_checked (hr.mono (by decide)) (by rfl) (db_cons (de_var 3) (db_cons (de_var 4) (db_cons (DF.de (df_lc (own := [("_law_worth", 12), ("_law_heft", 13)]) rfl sc.nd (di_seq (de_var 5)) (blkOk_by (sc := defScope s__law_one) (own := [("_law_worth", 12), ("_law_heft", 13)]) (N := N__law_one) (by decide +kernel)) (fun _ _ _ _ _ => (dg_tup rfl (dgs_cons (dg_name (i := 12) sc.nd rfl (by first | exact Or.inl rfl | exact Or.inr rfl)) (dgs_cons (dg_name (i := 13) sc.nd rfl (by first | exact Or.inl rfl | exact Or.inr rfl)) dgs_nil)))) (fun _ _ _ _ _ => dts_nil) (fun _ _ _ _ _ => (de_tup (da_cons (de_var 12) (da_cons (de_bin od_mul (de_var 13) (de_ix (DE.pk (de_var 0)) de_int (fun _ _ => rfl))) da_nil)))))) db_nil)))))) ds_nil)
    (ds_cons (ds_if (dt_cmp od_eqS (de_var 2) de_str (nomark _)) (ds_one (ds_ret (de_if (dt_cmp (od_lt) (de_callB (cp_maxt rfl) (by rfl) T.n_max PyProof.Rows.boot_max (dp_cons (DE.pk (de_cut (de_var 0) po_lit po_no)) dp_nil)) (de_var 3) (nomark _)) (de_cal C__law_checked (hr.mono (by decide)) (by rfl) (db_cons (de_var 3) (db_cons (DF.de (df_cat (DE.pk (de_var 4)) (DE.pk (DF.de (df_lst (da_cons (de_cut (de_var 0) po_lit po_no) da_nil)))))) (db_cons (de_var 5) db_nil)))) de_non))) ds_nil)
    (ds_cons (ds_if (dt_cmp od_eqS (de_var 2) de_str (nomark _)) (ds_cons (ds_if (dt_cmpP (op_neP hu64) (DE.pk (DF.de (df_lc (own := [("_law_one_here", 14)]) rfl sc.nd (di_seq (de_ix (DE.pk (de_var 0)) de_int (fun _ _ => rfl))) (blkOk_by (sc := defScope s__law_one) (own := [("_law_one_here", 14)]) (N := N__law_one) (by decide +kernel)) (fun _ _ _ _ _ => (dg_name (i := 14) sc.nd rfl (by first | exact Or.inl rfl | exact Or.inr rfl))) (fun _ _ _ _ _ => (dts_one (dt_cmp (od_ge) (de_var 14) (de_var 3) (nomark _)))) (fun _ _ _ _ _ => de_int)))) (DE.pk (DF.de (df_lst da_nil))) (nomark _)) (ds_one (ds_ret de_non)) ds_nil)
    (ds_cons (ds_setDict (i := 6) sc.nd rfl (by first | exact Or.inl rfl | exact Or.inr rfl) rfl (by rfl) T.n_dict (df_lc (own := [("_law_spot", 15), ("_law_one_here", 14)]) rfl sc.nd (di_enum (de_ix (DE.pk (de_var 0)) de_int (fun _ _ => rfl)) (by rfl) T.n_enumerate) (blkOk_by (sc := defScope s__law_one) (own := [("_law_spot", 15), ("_law_one_here", 14)]) (N := N__law_one) (by decide +kernel)) (fun _ _ _ _ _ => (dg_tup rfl (dgs_cons (dg_name (i := 15) sc.nd rfl (by first | exact Or.inl rfl | exact Or.inr rfl)) (dgs_cons (dg_name (i := 14) sc.nd rfl (by first | exact Or.inl rfl | exact Or.inr rfl)) dgs_nil)))) (fun _ _ _ _ _ => dts_nil) (fun _ _ _ _ _ => (de_tup (da_cons (de_var 14) (da_cons (de_var 15) da_nil))))))
    (ds_cons (ds_setLcV (i := 7) (own := [("_law_low", 10), ("_law_high", 11)]) rfl sc.nd rfl rfl (sw_true rfl rfl rfl (by decide +kernel)) (di_seq (de_var 4)) (blkOk_by (sc := defScope s__law_one) (own := [("_law_low", 10), ("_law_high", 11)]) (N := N__law_one) (by decide +kernel)) (fun _ _ _ _ _ => (dg_tup rfl (dgs_cons (dg_name (i := 10) sc.nd rfl (by first | exact Or.inl rfl | exact Or.inr rfl)) (dgs_cons (dg_name (i := 11) sc.nd rfl (by first | exact Or.inl rfl | exact Or.inr rfl)) dgs_nil)))) (fun _ _ _ _ _ => (dts_one (PW.pt (dw_and (dt_din 6 hu1 (de_var 10)) (dw_and1 (dt_din 6 hu1 (de_var 11))))))) (fun _ _ _ _ _ => (de_tup (da_cons (de_dget 6 hu1 (de_var 10) (fun _ _ => rfl)) (da_cons (de_dget 6 hu1 (de_var 11) (fun _ _ => rfl)) da_nil)))))
    (ds_one (ds_ret (de_cal C__law_checked (hr.mono (by decide)) (by rfl) (db_cons (de_callB cp_len (by rfl) T.n_len PySem.boot_len (dp_cons (DE.pk (de_ix (DE.pk (de_var 0)) de_int (fun _ _ => rfl))) dp_nil)) (db_cons (de_var 7) (db_cons (DF.de (df_lc (own := [("_law_one_here", 14)]) rfl sc.nd (di_seq (de_ix (DE.pk (de_var 0)) de_int (fun _ _ => rfl))) (blkOk_by (sc := defScope s__law_one) (own := [("_law_one_here", 14)]) (N := N__law_one) (by decide +kernel)) (fun _ _ _ _ _ => (dg_name (i := 14) sc.nd rfl (by first | exact Or.inl rfl | exact Or.inr rfl))) (fun _ _ _ _ _ => dts_nil) (fun _ _ _ _ _ => (de_ix (DE.pk (de_var 5)) (de_var 14) (fun _ _ => rfl))))) db_nil))))))))) ds_nil)
    (ds_cons (ds_set (i := 8) sc.nd rfl (by first | exact Or.inl rfl | exact Or.inr rfl) (de_var 1))
    (ds_cons (ds_for PassesOwn.never rfl (di_rng (de_bin od_sub (de_ix (DE.pk (de_var 0)) de_int (fun _ _ => rfl)) de_int) (by rfl) T.n_range) (dg_name (i := 9) sc.nd rfl (by first | exact Or.inl rfl | exact Or.inr rfl)) (ds_one (ds_set (i := 8) sc.nd rfl (by first | exact Or.inl rfl | exact Or.inr rfl) (de_if (dt_cmp od_notN (de_var 8) de_non (nomark _)) (de_cal C__law_two (hr.mono (by decide)) (by rfl) (db_cons (de_var 8) (db_cons (de_var 1) (db_cons de_bl db_nil)))) de_non))))
    (ds_one (ds_ret (de_var 8)))))))))))
theorem ok__law_put (T : Tx w K mg) {f : Addr} {fd : FuncData} (F : FnP K "_law_put" s__law_put f fd) (hm : mg "_law_put" = some (.ref f)) (C__law_two : Cal P w K mg base W "_law_two" 3 3 sp__law_two) (C__law_one : Cal P w K mg base W "_law_one" 4 2 sp__law_one) (rd : ∀ bs Q, sp__law_put bs Q → w__law_put { nx := fun _ => Q .none, rt := Q } (bs ++ List.replicate (N__law_put.length - bs.length) .no)) : Cal P w K mg base W "_law_put" 5 2 sp__law_put := by
  have sc := sc__law_put
  refine ⟨f, fd, ["_law_term_here", "_law_some"], fn_d F sc (wb := w__law_put) (fun cdv A outer s H E hr => ?_) rd, hm, F.kp, F.bindsN fun _ _ _ _ _ _ us hl => match us, hl with | [_, _], _ => rfl⟩
  exact (ds_cons (ds_if (dt_cmpP (op_inP op_in_seq) (DE.pk (de_ix (DE.pk (de_var 0)) de_int (fun _ _ => rfl))) (DE.pk (de_tup (da_cons de_str (da_cons de_str da_nil)))) (by rfl)) (ds_one (ds_ret (de_if (dt_cmp od_eqS (de_ix (DE.pk (de_var 0)) de_int (fun _ _ => rfl)) de_str (nomark _)) (de_tup (da_cons de_int (da_cons (de_tup da_nil) (da_cons (de_tup (da_cons (de_cut (de_var 0) po_lit po_no) da_nil)) da_nil)))) (de_tup (da_cons de_int (da_cons (de_tup da_nil) (da_cons (de_tup da_nil) da_nil))))))) ds_nil)
    (ds_cons (ds_if (dt_cmp od_eqI (de_callB cp_len (by rfl) T.n_len PySem.boot_len (dp_cons (DE.pk (de_var 1)) dp_nil)) de_int (nomark _)) (ds_one (ds_ret (de_cal C__law_two (hr.mono (by decide)) (by rfl) (db_cons (de_ix (DE.pk (de_var 1)) de_int (fun _ _ => rfl)) (db_cons (de_ix (DE.pk (de_var 1)) de_int (fun _ _ => rfl)) (db_cons (de_cmp od_eqS (de_ix (DE.pk (de_var 0)) de_int (fun _ _ => rfl)) de_str (nomark _)) db_nil)))))) ds_nil)
    (ds_one (ds_ret (de_cal C__law_one (hr.mono (by decide)) (by rfl) (db_cons (de_var 0) (db_cons (de_ix (DE.pk (de_var 1)) de_int (fun _ _ => rfl)) db_nil)))))))
theorem ok__law_kids (T : Tx w K mg) {f : Addr} {fd : FuncData} (F : FnP K "_law_kids" s__law_kids f fd) (hm : mg "_law_kids" = some (.ref f))  (rd : ∀ bs Q, sp__law_kids bs Q → w__law_kids { nx := fun _ => Q .none, rt := Q } (bs ++ List.replicate (N__law_kids.length - bs.length) .no)) : Cal P w K mg base W "_law_kids" 1 1 sp__law_kids := by
  have sc := sc__law_kids
  refine ⟨f, fd, ["_law_term_here"], fn_d F sc (wb := w__law_kids) (fun cdv A outer s H E hr => ?_) rd, hm, F.kp, F.bindsN fun _ _ _ _ _ _ us hl => match us, hl with | [_], _ => rfl⟩
  exact (ds_cons (ds_if (dt_cmpP (op_inP op_in_seq) (DE.pk (de_ix (DE.pk (de_var 0)) de_int (fun _ _ => rfl))) (DE.pk (de_tup (da_cons de_str (da_cons de_str da_nil)))) (by rfl)) (ds_one (ds_ret (de_tup da_nil))) ds_nil)
    (ds_one (ds_ret (de_if (dt_cmpP (op_inP op_in_seq) (DE.pk (de_ix (DE.pk (de_var 0)) de_int (fun _ _ => rfl))) (DE.pk (de_tup (da_cons de_str (da_cons de_str da_nil)))) (by rfl)) (de_cut (de_var 0) po_lit po_lit) (de_cut (de_var 0) po_lit po_lit)))))
theorem ok__law_facts_right (T : Tx w K mg) {f : Addr} {fd : FuncData} (F : FnP K "_law_facts_right" s__law_facts_right f fd) (hm : mg "_law_facts_right" = some (.ref f)) (C_best_table : Cal P w K mg base W "best_table" 7 1 sp_best_table) (C__law_two : Cal P w K mg base W "_law_two" 3 3 sp__law_two) (C_field_of : Cal P w K mg base W "field_of" 9 1 sp_field_of) (rd : ∀ bs Q, sp__law_facts_right bs Q → w__law_facts_right { nx := fun _ => Q .none, rt := Q } (bs ++ List.replicate (N__law_facts_right.length - bs.length) .no)) : Cal P w K mg base W "_law_facts_right" 10 4 sp__law_facts_right := by
  have sc := sc__law_facts_right
  refine ⟨f, fd, ["_law_term_here", "_law_made", "_law_other", "_law_far"], fn_d F sc (wb := w__law_facts_right) (fun cdv A outer s H E hr => ?_) rd, hm, F.kp, F.bindsN fun _ _ _ _ _ _ us hl => match us, hl with | [_, _, _, _], _ => rfl⟩
  have hu64 := hr.units
  exact (ds_cons (ds_par (i := 4) (j := 5) rfl sc.nd rfl rfl (by decide) rfl rfl (de_cal C_best_table (hr.mono (by decide)) (by rfl) (db_cons (de_var 1) db_nil)) (de_cal C_best_table (hr.mono (by decide)) (by rfl) (db_cons (de_var 3) db_nil)) (by rfl))
    (ds_cons (ds_set (i := 6) sc.nd rfl (by first | exact Or.inl rfl | exact Or.inr rfl) (de_cal C__law_two (hr.mono (by decide)) (by rfl) (db_cons (de_var 1) (db_cons (de_var 3) (db_cons de_bl db_nil)))))
    (ds_cons (ds_if (PW.pt (dw_and (dt_cmp od_notN (de_var 6) de_non (nomark _)) (dw_and1 (dt_cmpP (op_neP hu64) (DE.pk (de_cal C_best_table (hr.mono (by decide)) (by rfl) (db_cons (de_cal C_field_of (hr.mono (by decide)) (by rfl) (db_cons (de_tup (da_cons de_str (da_cons (de_var 0) (da_cons (de_var 2) da_nil)))) db_nil)) db_nil))) (DE.pk (de_bin od_addT (de_var 4) (de_var 5))) (nomark _))))) (ds_one (ds_ret de_bl)) ds_nil)
    (ds_cons (ds_set (i := 7) sc.nd rfl (by first | exact Or.inl rfl | exact Or.inr rfl) (DF.de (df_lst da_nil)))
    (ds_cons (ds_for PassesOwn.never rfl (di_seq (de_var 4)) (dg_name (i := 8) sc.nd rfl (by first | exact Or.inl rfl | exact Or.inr rfl)) (ds_one (ds_set (i := 7) sc.nd rfl (by first | exact Or.inl rfl | exact Or.inr rfl) (DF.de (df_cat (DE.pk (de_var 7)) (DE.pk (DF.de (df_lc (own := [("_law_high", 9)]) rfl sc.nd (di_seq (de_var 5)) (blkOk_by (sc := defScope s__law_facts_right) (own := [("_law_high", 9)]) (N := N__law_facts_right) (by decide +kernel)) (fun _ _ _ _ _ => (dg_name (i := 9) sc.nd rfl (by first | exact Or.inl rfl | exact Or.inr rfl))) (fun _ _ _ _ _ => (dts_one (dt_cmp (od_gt) (de_bin od_mul (de_ix (DE.pk (de_var 8)) de_int (fun _ _ => rfl)) (de_ix (DE.pk (de_var 9)) de_int (fun _ _ => rfl))) (de_bin od_mul (de_ix (DE.pk (de_var 9)) de_int (fun _ _ => rfl)) (de_ix (DE.pk (de_var 8)) de_int (fun _ _ => rfl))) (nomark _)))) (fun _ _ _ _ _ => de_int)))))))))
    (ds_cons (ds_if (PW.pt (dw_and (dt_cmp od_notN (de_var 6) de_non (nomark _)) (dw_and (dt_cmpP (op_eqP hu64) (DE.pk (de_var 7)) (DE.pk (DF.de (df_lst da_nil))) (nomark _)) (dw_and1 (dt_cmpP (op_neP hu64) (DE.pk (de_cal C_best_table (hr.mono (by decide)) (by rfl) (db_cons (de_cal C_field_of (hr.mono (by decide)) (by rfl) (db_cons (de_tup (da_cons de_str (da_cons (de_var 0) (da_cons (de_var 2) da_nil)))) db_nil)) db_nil))) (DE.pk (de_bin od_addT (de_var 4) (de_var 5))) (nomark _)))))) (ds_one (ds_ret de_bl)) ds_nil)
    (ds_one (ds_ret (de_cmpP (op_eqP hu64) (DE.pk (de_cal C_best_table (hr.mono (by decide)) (by rfl) (db_cons (de_cal C_field_of (hr.mono (by decide)) (by rfl) (db_cons (de_tup (da_cons de_str (da_cons (de_var 0) (da_cons de_int da_nil)))) db_nil)) db_nil))) (DE.pk (de_var 4)) (nomark _))))))))))
theorem ok__law_term_right (T : Tx w K mg) {f : Addr} {fd : FuncData} (F : FnP K "_law_term_right" s__law_term_right f fd) (hm : mg "_law_term_right" = some (.ref f)) (C_need_field : Cal P w K mg base W "need_field" 5 1 sp_need_field) (C_field_of : Cal P w K mg base W "field_of" 9 1 sp_field_of) (C_kids_of : Cal P w K mg base W "kids_of" 10 1 sp_kids_of) (C_need_term : Cal P w K mg base W "need_term" 9 1 sp_need_term) (C__law_kids : Cal P w K mg base W "_law_kids" 1 1 sp__law_kids) (rd : ∀ bs Q, sp__law_term_right bs Q → w__law_term_right { nx := fun _ => Q .none, rt := Q } (bs ++ List.replicate (N__law_term_right.length - bs.length) .no)) : CalG P w K mg base W "_law_term_right" 11 2 sp__law_term_right := by
  have sc := sc__law_term_right
  refine ⟨f, fd, ["_law_term_here", "_law_made"], fn_dG F sc (wb := w__law_term_right) (fun cdv A outer s H E hgu hr => ?_) rd, hm, F.kp, F.bindsN fun _ _ _ _ _ _ us hl => match us, hl with | [_, _], _ => rfl⟩
  have hu64 := hr.units
  exact (ds_cons (ds_set (i := 2) sc.nd rfl (by first | exact Or.inl rfl | exact Or.inr rfl) (de_callB (cp_repr hu64 hgu) (by rfl) T.n_repr PyProof.Rows.boot_repr (dp_cons (DE.pk (de_var 0)) dp_nil)))
    (ds_cons (ds_for PassesOwn.never rfl (di_rng de_int (by rfl) T.n_range) (dg_name (i := 3) sc.nd rfl (by first | exact Or.inl rfl | exact Or.inr rfl)) (ds_cons (ds_set (i := 4) sc.nd rfl (by first | exact Or.inl rfl | exact Or.inr rfl) (DF.de (df_lst (da_cons (de_cal C_need_term (hr.mono (by decide)) (by rfl) (db_cons (de_var 0) db_nil)) (da_cons (de_cal C_field_of (hr.mono (by decide)) (by rfl) (db_cons (de_var 0) db_nil)) (da_cons (de_cal C_kids_of (hr.mono (by decide)) (by rfl) (db_cons (de_var 0) db_nil)) (da_cons (de_cal C_need_field (hr.mono (by decide)) (by rfl) (db_cons (de_cal C_field_of (hr.mono (by decide)) (by rfl) (db_cons (de_var 0) db_nil)) db_nil)) da_nil)))))))
    (ds_one (ds_if (dt_cmp od_neS (de_callB (cp_repr hu64 hgu) (by rfl) T.n_repr PyProof.Rows.boot_repr (dp_cons (DE.pk (de_var 4)) dp_nil)) (de_callB (cp_repr hu64 hgu) (by rfl) T.n_repr PyProof.Rows.boot_repr (dp_cons (DE.pk (DF.de (df_lst (da_cons (de_var 0) (da_cons (de_var 1) (da_cons (de_cal C__law_kids (hr.mono (by decide)) (by rfl) (db_cons (de_var 0) db_nil)) (da_cons (de_var 1) da_nil))))))) dp_nil)) (nomark _)) (ds_one (ds_ret de_bl)) ds_nil))))
    (ds_one (ds_ret (de_cmp od_eqS (de_callB (cp_repr hu64 hgu) (by rfl) T.n_repr PyProof.Rows.boot_repr (dp_cons (DE.pk (de_var 0)) dp_nil)) (de_var 2) (nomark _))))))
end Qp
set_option maxHeartbeats 2000000
namespace Qp
open PySem PySem.Spec PyProof.Rows L2 Qd
/-! ### a dict of pairs -/
abbrev Pr := Nat × Nat
def key2 (x : Pr) : List Key := [keyN x.1, keyN x.2]
theorem key2_inj (a b : Pr) (h : key2 a = key2 b) : a = b := by
  unfold key2 at h
  injection h with h1 h2
  injection h2 with h2 _
  exact Prod.ext (keyN_inj _ _ h1) (keyN_inj _ _ h2)
def tru2 : Pr → PyData := fun _ => .bool true
def dL2 (ks : List Pr) : Bd := .dT (ks.map fun x => (key2 x, tru2 x))
def insL (ks : List Pr) (x : Pr) : List Pr := if x ∈ ks then ks else ks ++ [x]
theorem ins_mem {ks : List Pr} {x y : Pr} : y ∈ insL ks x ↔ y ∈ ks ∨ y = x := by
  unfold insL
  split
  · rename_i h
    exact ⟨.inl, fun z => z.elim _root_.id (fun e => e ▸ h)⟩
  · rw [List.mem_append, List.mem_singleton]
theorem ins_nodup {ks : List Pr} {x : Pr} (h : ks.Nodup) : (insL ks x).Nodup := by
  unfold insL
  split
  · exact h
  · rename_i hn
    refine List.nodup_append.mpr ⟨h, List.nodup_cons.mpr ⟨fun z => (nomatch z), List.nodup_nil⟩, fun a ha b hb e => ?_⟩
    rw [List.mem_singleton.mp hb] at e
    rw [e] at ha
    exact hn ha
theorem putD_ins (ks : List Pr) (x : Pr) : putD (ks.map fun x => (key2 x, tru2 x)) (key2 x) (.bool true) = (insL ks x).map fun x => (key2 x, tru2 x) := by
  unfold insL
  split
  · rename_i h
    exact putD_old key2 key2_inj tru2 x ks h
  · rename_i h
    rw [putD_new key2 key2_inj tru2 x _ ks h, List.map_append]
    rfl
theorem tkey2 (x : Pr) : tkeyD (npr x) = some (key2 x) := rfl
theorem dIn_2 {neg : Bool} {i : Nat} {wy : WE} {ρ : En} {ks : List Pr} {x : Pr} (h : ρ.getD i .no = dL2 ks) (hy : Val wy ρ (npr x)) : Val (wDIn neg i wy) ρ (.bool (if neg then !decide (x ∈ ks) else decide (x ∈ ks))) := fun Q q => hy _ (by
  show isDic (ρ.getD i .no) ∧ atDic (ρ.getD i .no) (npr x) fun o => Q (.bool (if neg then !o.isSome else o.isSome))
  rw [h]
  refine ⟨trivial, ?_⟩
  show Q (.bool (if neg then !(valD (ks.map fun x => (key2 x, tru2 x)) (key2 x)).isSome else (valD (ks.map fun x => (key2 x, tru2 x)) (key2 x)).isSome))
  rw [valD_map key2 key2_inj]
  by_cases e : x ∈ ks
  · rw [decide_eq_true e] at q
    rw [if_pos e]
    exact q
  · rw [decide_eq_false e] at q
    rw [if_neg e]
    exact q)
theorem put_2 {i : Nat} {wy wv : WE} {E : WEnds} {ρ : En} {ks : List Pr} {x : Pr} (h : ρ.getD i .no = dL2 ks) (hv : Val wv ρ (.bool true)) (hy : Val wy ρ (npr x)) (hl : ks.length ≤ 1000) (q : E.nx (ρ.set i (dL2 (insL ks x)))) : wDPut i wy wv E ρ := hv _ (by
  show isDic (ρ.getD i .no) ∧ wy ρ fun y => putDic (ρ.getD i .no) y (.bool true) fun b => E.nx (ρ.set i b)
  rw [h]
  refine ⟨trivial, hy _ ⟨by rw [List.length_map, sizeLine_eq]; omega, ?_⟩⟩
  show E.nx (ρ.set i (.dT (putD (ks.map fun x => (key2 x, tru2 x)) (key2 x) (.bool true))))
  rw [putD_ins]
  exact q)
def dedup (l : List Pr) : List Pr := l.foldl insL []
theorem fold_mem : ∀ (l : List Pr) {ks : List Pr} {y : Pr}, y ∈ l.foldl insL ks ↔ y ∈ ks ∨ y ∈ l
  | [], ks, y => by simp
  | x :: l, ks, y => by
    rw [List.foldl_cons, fold_mem l, ins_mem, List.mem_cons, or_assoc]
theorem fold_nodup : ∀ (l : List Pr) {ks : List Pr}, ks.Nodup → (l.foldl insL ks).Nodup
  | [], ks, h => h
  | x :: l, ks, h => fold_nodup l (ins_nodup h)
theorem pairsT_map : ∀ l : List Pr, pairsT (l.map fun x => .tuple [npr x, .bool true]) = some (l.map fun x => (key2 x, .bool true))
  | [] => rfl
  | x :: l => by
    show (match tkeyD (npr x), pairsT (l.map fun x => .tuple [npr x, .bool true]) with
      | some k, some l => some ((k, PyData.bool true) :: l)
      | _, _ => none) = _
    rw [pairsT_map l, tkey2]
    rfl
theorem merge_fold : ∀ (l : List Pr) (ks : List Pr), mergeD (ks.map fun x => (key2 x, tru2 x)) (l.map fun x => (key2 x, .bool true)) = (l.foldl insL ks).map fun x => (key2 x, tru2 x)
  | [], ks => rfl
  | x :: l, ks => by
    show mergeD (putD (ks.map fun x => (key2 x, tru2 x)) (key2 x) (.bool true)) (l.map fun x => (key2 x, .bool true)) = _
    rw [putD_ins]
    exact merge_fold l (insL ks x)
theorem seq_dictT {i : Nat} {wl : WP} {rest : WS} {E : WEnds} {ρ : En} {l : List Pr} (h : ValP wl ρ (l.map fun x => .tuple [npr x, .bool true])) (q : rest E (ρ.set i (dL2 (dedup l)))) : wSeq (wSetDictT i wl) rest E ρ := h _ (by
  show (match pairsT (l.map fun x => .tuple [npr x, .bool true]) with
    | some kvs => rest E (ρ.set i (.dT (mergeD [] kvs)))
    | none => False)
  rw [pairsT_map]
  show rest E (ρ.set i (.dT (mergeD (([] : List Pr).map fun x => (key2 x, tru2 x)) (l.map fun x => (key2 x, .bool true)))))
  rw [merge_fold]
  exact q)
theorem keysI_map : ∀ ks : List Pr, keysI (ks.map fun x => (key2 x, tru2 x)) = some (ks.map fun x => [(x.1 : Int), (x.2 : Int)])
  | [] => rfl
  | x :: ks => by
    show (match intKeys (key2 x), keysI (ks.map fun x => (key2 x, tru2 x)) with
      | some i, some l => some (i :: l)
      | _, _ => none) = _
    rw [keysI_map ks]
    rfl
theorem sortDT_v {i : Nat} {ρ : En} {ks : List Pr} {n : Nat} {p : Rel} (h : ρ.getD i .no = dL2 ks) (hn : ks.Nodup) (hm : ∀ x, x ∈ ks ↔ x ∈ tiesL n p) : ValP (wSortDT i) ρ ((tiesL n p).map npr) := fun Q q => by
  unfold wSortDT
  rw [h]
  show (match keysI (ks.map fun x => (key2 x, tru2 x)) with
    | some ks => (∀ k ∈ ks, k ≠ []) ∧ ∀ out : List (List Int), out.Perm ks → out.Pairwise (fun a b => HT.lexLt b a = false) → Q (out.map tupI)
    | none => False)
  rw [keysI_map]
  refine ⟨fun k hk => ?_, fun out hp hs => ?_⟩
  · obtain ⟨x, _, rfl⟩ := List.mem_map.mp hk
    simp
  · have hpl : ks.Perm (tiesL n p) := (List.perm_ext_iff_of_nodup hn (ties_nodup n p)).mpr hm
    have e : out = (tiesL n p).map fun x => [(x.1 : Int), (x.2 : Int)] := by
      refine List.Perm.eq_of_pairwise (le := fun a b => HT.lexLt b a = false) ?_ hs ?_ (hp.trans (hpl.map _))
      · intro a b ha hb h1 h2
        obtain ⟨x, _, rfl⟩ := List.mem_map.mp (hp.mem_iff.mp ha)
        obtain ⟨y, _, rfl⟩ := List.mem_map.mp hb
        rw [lex_pair] at h1 h2
        by_cases g : (x.1 : Int) = (y.1 : Int)
        · rw [if_pos g.symm, decide_eq_false_iff_not] at h1
          rw [if_pos g, decide_eq_false_iff_not] at h2
          have : (x.2 : Int) = (y.2 : Int) := by omega
          rw [g, this]
        · rw [if_neg (fun z => g z.symm), decide_eq_false_iff_not] at h1
          rw [if_neg g, decide_eq_false_iff_not] at h2
          omega
      · rw [List.pairwise_map]
        refine (ties_sorted n p).imp fun {a b} h => ?_
        rw [lex_pair]
        rcases h with h | ⟨h, h'⟩
        · rw [if_neg (by omega)]
          exact decide_eq_false (by omega)
        · rw [if_pos (by omega)]
          exact decide_eq_false (by omega)
    rw [e, List.map_map]
    exact q
/-! ### the law's closure -/
theorem ks_len {n : Nat} {ks : List Pr} (hn : n ≤ 10) (nd : ks.Nodup) (h : ∀ x ∈ ks, x.1 < n ∧ x.2 < n) : ks.length ≤ 100 := by
  have h1 := List.Nodup.length_le_of_subset (l₁ := ks) (l₂ := tiesL n (memR ks)) nd fun x hx => mem_ties.mpr ⟨(h x hx).1, (h x hx).2, memR_iff.mpr hx⟩
  have := ties_100 (memR ks) hn
  omega
structure KsI (n : Nat) (ks : List Pr) (p : Rel) : Prop where
  nd : ks.Nodup
  lt : ∀ x ∈ ks, x.1 < n ∧ x.2 < n
  mem : ∀ i j, (i, j) ∈ ks ↔ p i j = true
/-- the middle k, the rows below a done, and of row a the places below b -/
def midR (P : Rel) (k a b : Nat) : Rel := fun i j => P i j || ((decide (i < a) || (decide (i = a) && decide (j < b))) && (P i k && P k j))
theorem mid_col {P : Rel} {k a b i : Nat} : midR P k a b i k = P i k := by
  unfold midR
  cases P i k <;> simp
theorem mid_row {P : Rel} {k a b j : Nat} : midR P k a b k j = P k j := by
  unfold midR
  cases P k j <;> simp
theorem ksI_congr {n : Nat} {ks : List Pr} {p q : Rel} (h : KsI n ks p) (e : ∀ i j, i < n → j < n → p i j = q i j) (hq : ∀ i j, q i j = true → i < n ∧ j < n) : KsI n ks q := by
  refine ⟨h.nd, h.lt, fun i j => ?_⟩
  rw [h.mem]
  constructor
  · intro z
    have := h.lt _ ((h.mem i j).mpr z)
    rw [← e i j this.1 this.2]
    exact z
  · intro z
    have := hq i j z
    rw [e i j this.1 this.2]
    exact z
theorem ksI_rng {n : Nat} {ks : List Pr} {p : Rel} (h : KsI n ks p) {i j : Nat} (z : p i j = true) : i < n ∧ j < n := h.lt _ ((h.mem i j).mpr z)
theorem mid_rng {n : Nat} {P : Rel} {k a b : Nat} (h : ∀ i j, P i j = true → i < n ∧ j < n) : ∀ i j, midR P k a b i j = true → i < n ∧ j < n := fun i j z => by
  unfold midR at z
  rw [Bool.or_eq_true] at z
  rcases z with z | z
  · exact h i j z
  · rw [Bool.and_eq_true, Bool.and_eq_true] at z
    exact ⟨(h _ _ z.2.1).1, (h _ _ z.2.2).2⟩
/-- one place more -/
theorem mid_step {n : Nat} {ks : List Pr} {P : Rel} {k a b : Nat} (h : KsI n ks (midR P k a b)) (ha : a < n) (hb : b < n) : KsI n (if decide ((a, k) ∈ ks) && decide ((k, b) ∈ ks) then insL ks (a, b) else ks) (midR P k a (b + 1)) := by
  have e1 : decide ((a, k) ∈ ks) = P a k := bool_ext (by rw [decide_eq_true_eq, h.mem, mid_col])
  have e2 : decide ((k, b) ∈ ks) = P k b := bool_ext (by rw [decide_eq_true_eq, h.mem, mid_row])
  rw [e1, e2]
  have hx : ∀ i j, midR P k a (b + 1) i j = (midR P k a b i j || (decide (i = a) && decide (j = b) && (P a k && P k b))) := fun i j => by
    unfold midR
    by_cases h1 : i = a
    · subst h1
      by_cases h2 : j = b
      · subst h2
        simp
      · have : decide (j < b + 1) = decide (j < b) := by
          by_cases c : j < b
          · rw [decide_eq_true c, decide_eq_true (by omega)]
          · rw [decide_eq_false c, decide_eq_false (by omega)]
        rw [this]
        simp [h2]
    · simp [h1]
  cases c : (P a k && P k b) with
  | false =>
    rw [if_neg (by simp)]
    refine ⟨h.nd, h.lt, fun i j => ?_⟩
    rw [h.mem, hx, c, Bool.and_false, Bool.or_false]
  | true =>
    rw [if_pos rfl]
    refine ⟨ins_nodup h.nd, fun x hx => ?_, fun i j => ?_⟩
    · rcases ins_mem.mp hx with hx | rfl
      · exact h.lt x hx
      · exact ⟨ha, hb⟩
    · rw [ins_mem, h.mem, hx, c, Bool.and_true, Bool.or_eq_true, Bool.and_eq_true, decide_eq_true_eq, decide_eq_true_eq, Prod.mk.injEq]
theorem pairs_nodup_len {n : Nat} {pre post : List Nat} {i : Nat} (h : pre ++ i :: post = List.range n) : pre.length < n := by
  have := congrArg List.length h
  rw [List.length_append, List.length_cons, List.length_range] at this
  omega
theorem rd__law_closed : ∀ bs Q, sp__law_closed bs Q → w__law_closed { nx := fun _ => Q .none, rt := Q } (bs ++ List.replicate (N__law_closed.length - bs.length) .no) := by
  rintro bs Q ⟨n, l, hn, hr, hl, rfl, q⟩
  have hc := valP_lc (ρ := [.val (nt n), .val (.list (l.map npr)), .no, .no, .no, .no, .no]) (vs := [6]) (wl := wSeqI (wVar 1)) (g := wgName 6) (te := wTup (wCons (wVar 6) (wCons (wC (.bool true)) wNil))) npr (fun x => .tuple [npr x, .bool true]) l hl (seqI_v rfl (var_v rfl)) (fun x hx Q q => g1_v (pair_v (var_v rfl) c_v _ q))
  refine seq_dictT hc ?_
  refine seq_for (rng_v (n := n) (var_v rfl) (by omega)) ?_
  have hrr : ∀ i j, memR l i j = true → i < n ∧ j < n := fun i j e => hr _ (memR_iff.mp e)
  refine for_pre (all := List.range n) (fun (i : Nat) => PyData.int (i : Int)) (fun pre ρ => ∃ ks b3 b4 b5 b6, ρ = [.val (nt n), .val (.list (l.map npr)), dL2 ks, b3, b4, b5, b6] ∧ KsI n ks (clo pre.length (memR l))) ?_ ?_ (pre := []) rfl ⟨dedup l, .no, .no, .no, .no, rfl, ?_⟩
  · rintro pre k post ρ E1 he ⟨ks, b3, b4, b5, b6, rfl, hk⟩ hrt hnx -
    have hkp := range_at he
    have hkn := pairs_nodup_len he
    subst hkp
    have hP : ∀ i j, clo pre.length (memR l) i j = true → i < n ∧ j < n := fun i j z => ksI_rng hk z
    refine g1_v ?_
    show wFor _ _ _ E1 [.val (nt n), .val (.list (l.map npr)), dL2 ks, .val (nt pre.length), b4, b5, b6]
    refine for_v (rng_v (n := n) (var_v rfl) (by omega)) ?_
    refine for_pre (all := List.range n) (fun (i : Nat) => PyData.int (i : Int)) (fun pre2 ρ => ∃ ks b4 b5, ρ = [.val (nt n), .val (.list (l.map npr)), dL2 ks, .val (nt pre.length), b4, b5, b6] ∧ KsI n ks (midR (clo pre.length (memR l)) pre.length pre2.length 0)) ?_ ?_ (pre := []) rfl ⟨ks, b4, b5, rfl, ?_⟩
    · rintro pre2 a post2 ρ E2 he2 ⟨ks, b4, b5, rfl, hk⟩ hrt2 hnx2 -
      have hap := range_at he2
      have han := pairs_nodup_len he2
      subst hap
      refine g1_v ?_
      show wFor _ _ _ E2 [.val (nt n), .val (.list (l.map npr)), dL2 ks, .val (nt pre.length), .val (nt pre2.length), b5, b6]
      refine for_v (rng_v (n := n) (var_v rfl) (by omega)) ?_
      refine for_pre (all := List.range n) (fun (i : Nat) => PyData.int (i : Int)) (fun pre3 ρ => ∃ ks b5, ρ = [.val (nt n), .val (.list (l.map npr)), dL2 ks, .val (nt pre.length), .val (nt pre2.length), b5, b6] ∧ KsI n ks (midR (clo pre.length (memR l)) pre.length pre2.length pre3.length)) ?_ ?_ (pre := []) rfl ⟨ks, b5, rfl, hk⟩
      · rintro pre3 b post3 ρ E3 he3 ⟨ks, b5, rfl, hk⟩ hrt3 hnx3 -
        have hbp := range_at he3
        have hbn := pairs_nodup_len he3
        subst hbp
        refine g1_v ?_
        let e1 : En := [.val (nt n), .val (.list (l.map npr)), dL2 ks, .val (nt pre.length), .val (nt pre2.length), .val (nt pre3.length), b6]
        show wIfS _ _ _ E3 e1
        have hst := mid_step hk han hbn
        have t1 := val_tst (dIn_2 (neg := false) (i := 2) (ρ := e1) (wy := wTup (wCons (wVar 4) (wCons (wVar 3) wNil))) (ks := ks) (x := (pre2.length, pre.length)) rfl (pair_v (var_v rfl) (var_v rfl)))
        have t2 := val_tst (dIn_2 (neg := false) (i := 2) (ρ := e1) (wy := wTup (wCons (wVar 3) (wCons (wVar 5) wNil))) (ks := ks) (x := (pre.length, pre3.length)) rfl (pair_v (var_v rfl) (var_v rfl)))
        refine if_v (and_v t1 fun _ => t2) (fun e => ?_) (fun e => ?_)
        · rw [if_neg (by simp), if_neg (by simp)] at e
          rw [e, if_pos rfl] at hst
          refine put_2 (ks := ks) (x := (pre2.length, pre3.length)) rfl c_v (pair_v (var_v rfl) (var_v rfl)) (by have := ks_len hn hk.nd hk.lt; omega) (hnx3 _ ⟨_, _, rfl, ?_⟩)
          rw [List.length_append, List.length_singleton]
          exact hst
        · rw [if_neg (by simp), if_neg (by simp)] at e
          rw [e, if_neg (by simp)] at hst
          refine hnx3 _ ⟨_, _, rfl, ?_⟩
          rw [List.length_append, List.length_singleton]
          exact hst
      · rintro ρ ⟨ks, b5, rfl, hk⟩
        refine hnx2 _ ⟨ks, _, _, rfl, ksI_congr hk (fun i j hi hj => ?_) (mid_rng hP)⟩
        rw [List.length_range, List.length_append, List.length_singleton]
        unfold midR
        congr 2
        rw [decide_eq_true hj, Bool.and_true]
        by_cases c : i < pre2.length
        · rw [decide_eq_true c, decide_eq_true (by omega : i < pre2.length + 1)]
          rfl
        · by_cases c2 : i = pre2.length
          · rw [decide_eq_true c2, decide_eq_true (by omega : i < pre2.length + 1), Bool.or_true]
            rfl
          · rw [decide_eq_false c2, decide_eq_false (by omega : ¬ i < pre2.length + 1), decide_eq_false c]
            simp
    · rintro ρ ⟨ks, b4, b5, rfl, hk⟩
      refine hnx _ ⟨ks, _, _, _, _, rfl, ?_⟩
      rw [List.length_append, List.length_singleton]
      refine ksI_congr hk (fun i j hi hj => ?_) (fun i j z => ?_)
      · rw [List.length_range]
        show _ = stepW _ _ i j
        unfold midR stepW
        rw [decide_eq_true hi]
        rfl
      · rcases stepW_iff.mp z with z | ⟨z1, z2⟩
        · exact hP i j z
        · exact ⟨(hP _ _ z1).1, (hP _ _ z2).2⟩
    · refine ksI_congr hk (fun i j hi hj => ?_) (mid_rng hP)
      unfold midR
      simp
  · rintro ρ ⟨ks, b3, b4, b5, b6, rfl, hk⟩
    rw [List.length_range] at hk
    show wRet (wFz (wSortDT 2)) { nx := fun _ => Q .none, rt := Q } [.val (nt n), .val (.list (l.map npr)), dL2 ks, b3, b4, b5, b6]
    refine ret_v (val_fz (sortDT_v (ks := ks) (n := n) (p := clo n (memR l)) rfl hk.nd (fun x => ?_))) q
    rw [mem_ties]
    constructor
    · exact fun z => ⟨(hk.lt x z).1, (hk.lt x z).2, (hk.mem x.1 x.2).mp z⟩
    · exact fun z => (hk.mem x.1 x.2).mpr z.2.2
  · refine ⟨fold_nodup l List.nodup_nil, fun x hx => ?_, fun i j => ?_⟩
    · rcases (fold_mem l).mp hx with hx | hx
      · nomatch hx
      · exact hr x hx
    · show (i, j) ∈ l.foldl insL [] ↔ memR l i j = true
      rw [fold_mem, memR_iff]
      simp
end Qp
set_option maxHeartbeats 2000000
namespace Qp
open PySem PySem.Spec PyProof.Rows L2 Qd
theorem chain_v {wa wb wc : WE} {ρ : En} {a b c : Int} (ha : Val wa ρ (.int a)) (hb : Val wb ρ (.int b)) (hc : Val wc ρ (.int c)) : Tst (wTst (wChain rLeI rLeI wa wb wc)) ρ (decide (a ≤ b) && decide (b ≤ c)) := fun Q q => ha _ (hb _ ⟨trivial, (by
  show if decide (a ≤ b) = true then wc ρ fun w => rLeI (.int b) w _ else _
  by_cases h : a ≤ b
  · rw [decide_eq_true h] at q ⊢
    rw [if_pos rfl]
    exact hc _ ⟨trivial, q⟩
  · rw [decide_eq_false h] at q ⊢
    rw [if_neg (by simp)]
    exact q)⟩)
theorem or_v {t u : WT} {ρ : En} {a b : Bool} (h : Tst t ρ a) (k : Tst u ρ b) : Tst (wOr t u) ρ (a || b) := by
  cases a
  · exact or_s h k
  · exact or_t h
theorem shaped_intsG {α : Type} (f : α → Int) (l : List α) : SeqAt.shaped (.list (l.map fun x => .int (f x))) = true := by
  unfold SeqAt.shaped
  rw [lay_lst, lay_map (fun i => lay_int _), Bool.true_and, dep_lst]
  have := dep_map (k := 0) (f := fun x => PyData.int (f x)) (fun i => by rw [dep_int]; exact Nat.le_refl _) l
  exact decide_eq_true (by omega)
theorem nil_l {ρ : En} : Val (wFz (wLst wNil)) ρ (.list []) := val_fz (lst_v nil_v (Nat.zero_le _))
theorem eqv_isnil (xs : List PyData) : PyData.eqv (.list xs) (.list []) = decide (xs = []) := by
  cases xs with
  | nil => rw [eqv_nn]; rfl
  | cons x xs => rw [eqv_nil (by simp)]; rfl
theorem if_e {t : WT} {wa wb : WE} {ρ : En} {b : Bool} {Q : PyData → Prop} (h : Tst t ρ b) (h1 : b = true → wa ρ Q) (h2 : b = false → wb ρ Q) : wIf t wa wb ρ Q := tst_if h h1 h2
theorem tup1' {we : WE} {ρ : En} {d : PyData} {es : List PyData} (hi : itemsD d = some es) (h : Val we ρ d) : Val (wCallB rTupD (wCons we wNil)) ρ (.tuple es) := fun Q q => h _ (by
  show (match itemsD d with
    | some es => Q (.tuple es)
    | none => False)
  rw [hi]
  exact q)
theorem seq_ifn {t : WT} {w rest : WS} {E : WEnds} {ρ : En} {b : Bool} (h : Tst t ρ b) (k1 : b = true → w { E with nx := fun ρ => rest E ρ } ρ) (k2 : b = false → rest E ρ) : wSeq (wIfS t w wNext) rest E ρ := by
  cases b
  · exact seq_f h (k2 rfl)
  · exact seq_t h (k1 rfl)
theorem rd__law_checked : ∀ bs Q, sp__law_checked bs Q → w__law_checked { nx := fun _ => Q .none, rt := Q } (bs ++ List.replicate (N__law_checked.length - bs.length) .no) := by
  rintro bs Q ⟨n, l, s, d, hn, hr, hl, hs, hd, rfl, q⟩
  have hdi : itemsD d = some (s.map ipr) := by rcases hd with rfl | rfl <;> rfl
  have hc := valP_lcf (ρ := [.val (nt n), .val (.list (l.map npr)), .val d, .no, .no, .no, .no, .no, .no]) (vs := [5, 6]) (wl := wSeqI (wVar 2)) (g := wgTup 2 (wgCons (wgName 5) (wgCons (wgName 6) wgNil))) (tt := wOr (wNot (wTst (wChain rLeI rLeI (wUn rNegD (wC (.int 1000))) (wVar 5) (wC (.int 1000))))) (wNot (wTst (wChain rLeI rLeI (wC (.int 1)) (wVar 6) (wC (.int 1000)))))) (te := wC (.int 1))
    ipr (fun x => !okSeen x) (fun _ => .int 1) s (by omega) (seqI_v hdi (var_v rfl)) (fun x hx Q1 Q2 h1 h2 => g2_v (by
      refine tst_if (b := !okSeen x) ?_ h1 h2
      have := or_v (ρ := [.val (nt n), .val (.list (l.map npr)), .val d, .no, .no, .val (.int x.1), .val (.int x.2), .no, .no]) (not_v (chain_v (a := -1000) (wa := wUn rNegD (wC (.int 1000))) (wb := wVar 5) (wc := wC (.int 1000)) (fun Q q => q) (var_v rfl) c_v)) (not_v (chain_v (wa := wC (.int 1)) (wb := wVar 6) (wc := wC (.int 1000)) c_v (var_v rfl) c_v))
      rw [← Bool.not_and, ← Bool.and_assoc] at this
      exact this))
  refine seq_set (val_fz hc) ?_
  have hsh := shaped_intsG (fun _ : Int × Int => (1 : Int)) (s.filter fun x => !okSeen x)
  have hiff : (s.filter fun x => !okSeen x) = [] ↔ s.all okSeen = true := by
    rw [List.filter_eq_nil_iff, List.all_eq_true]
    exact ⟨fun z x hx => by have := z x hx; simpa using this, fun z x hx => by rw [z x hx]; simp⟩
  refine seq_ifn (b := decide ((10 : Int) < (n : Int)) || !decide (((s.filter fun x => !okSeen x).map fun _ => PyData.int 1) = [])) (or_v (gt_b (var_v rfl) c_v rfl) ?_) (fun e => ?_) (fun e => ?_)
  · have := neD_t (ρ := [.val (nt n), .val (.list (l.map npr)), .val d, .val (.list ((s.filter fun x => !okSeen x).map fun _ => PyData.int 1)), .no, .no, .no, .no, .no]) (wa := wVar 3) (var_v rfl) nil_l hsh shaped_nl
    rw [eqv_isnil] at this
    exact this
  · have hno : checked n (memR l) s = none := by
      unfold checked
      rw [if_neg]
      rintro ⟨h1, h2, _⟩
      rw [Bool.or_eq_true, decide_eq_true_eq, Bool.not_eq_true', decide_eq_false_iff_not, List.map_eq_nil_iff] at e
      rcases e with e | e
      · omega
      · exact e (hiff.mpr h2)
    rw [hno] at q
    exact ret_v c_v q
  · rw [Bool.or_eq_false_iff, decide_eq_false_iff_not, Bool.not_eq_false', decide_eq_true_eq, List.map_eq_nil_iff] at e
    obtain ⟨e1, e2⟩ := e
    have hn10 : n ≤ 10 := by omega
    have hok := hiff.mp e2
    have hrr : ∀ i j, memR l i j = true → i < n ∧ j < n := fun i j e => hr _ (memR_iff.mp e)
    refine seq_set (d := .list ((tiesL n (clo n (memR l))).map npr)) (fun Q q => call2_v (var_v rfl) (var_v rfl) ⟨n, l, hn10, hr, hl, rfl, q⟩) ?_
    have l100 := ties_100 (clo n (memR l)) hn10
    let e1 : En := [.val (nt n), .val (.list (l.map npr)), .val d, .val (.list ((s.filter fun x => !okSeen x).map fun _ => PyData.int 1)), .val (.list ((tiesL n (clo n (memR l))).map npr)), .no, .no, .no, .no]
    have hc2 := valP_lcf (ρ := e1) (vs := [7, 8]) (wl := wSeqI (wVar 4)) (g := wgTup 2 (wgCons (wgName 7) (wgCons (wgName 8) wgNil))) (tt := wTst (wOp rEqI (wVar 7) (wVar 8))) (te := wC (.int 1))
      npr (fun x => decide ((x.1 : Int) = (x.2 : Int))) (fun _ => .int 1) (tiesL n (clo n (memR l))) (by omega) (seqI_v rfl (var_v rfl)) (fun x hx Q1 Q2 h1 h2 => g2_v (tst_if (eq_b (var_v rfl) (var_v rfl) rfl) h1 h2))
    have t2 := eqD_t (val_fz hc2) nil_l (shaped_intsG (fun _ : Pr => (1 : Int)) _) shaped_nl
    rw [eqv_isnil] at t2
    have hirr : ((tiesL n (clo n (memR l))).filter fun x => decide ((x.1 : Int) = (x.2 : Int))) = [] ↔ (List.range n).all (fun i => !(clo n (memR l) i i)) = true := by
      rw [List.filter_eq_nil_iff, List.all_eq_true]
      constructor
      · intro z i hi
        cases c : clo n (memR l) i i with
        | false => rfl
        | true =>
          have hi := List.mem_range.mp hi
          exact absurd (decide_eq_true rfl) (z (i, i) (mem_ties.mpr ⟨hi, hi, c⟩))
      · intro z x hx h
        obtain ⟨h1, h2, h3⟩ := mem_ties.mp hx
        have h := of_decide_eq_true h
        have e : x.1 = x.2 := by omega
        have := z x.1 (List.mem_range.mpr h1)
        rw [← e] at h3
        rw [h3] at this
        cases this
    refine ret_c (if_e t2 (fun e => ?_) (fun e => ?_))
    · rw [decide_eq_true_eq, List.map_eq_nil_iff] at e
      have hyes : checked n (memR l) s = some ⟨n, clo n (memR l), s⟩ := by
        unfold checked
        rw [if_pos ⟨hn10, hok, hirr.mp e⟩]
      rw [hyes] at q
      refine trip_v (a := nt n) (b := .tuple ((tiesL n (clo n (memR l))).map npr)) (c := .tuple (s.map ipr)) (var_v rfl) (tup1 (var_v rfl)) (tup1' hdi (var_v rfl)) _ q
    · rw [decide_eq_false_iff_not, List.map_eq_nil_iff] at e
      have hno : checked n (memR l) s = none := by
        unfold checked
        rw [if_neg]
        rintro ⟨_, _, h3⟩
        exact e (hirr.mpr h3)
      rw [hno] at q
      exact q
theorem memR_laid {A B : Fld} (ha : WF A) (hb : WF B) (b : Bool) : memR (laidL A B b) = relU A B b := rel_ext fun i j => by
  rw [memR_iff, laid_mem, mem_ties]
  exact ⟨fun z => z.2.2, fun z => ⟨(relU_rng ha hb i j z).1, (relU_rng ha hb i j z).2, z⟩⟩
theorem laid_len {A B : Fld} (ha : A.n ≤ 10) (hb : B.n ≤ 10) (b : Bool) : (laidL A B b).length ≤ 300 := by
  have l1 := ties_100 A.lt ha
  have l2 := ties_100 B.lt hb
  have l3 : (farL A B b).length ≤ 100 := by
    unfold farL
    cases b
    · exact Nat.zero_le _
    · rw [if_pos rfl]
      have h1 : ((List.range A.n).flatMap fun i => (List.range B.n).map fun j => (i, j + A.n)).length ≤ (List.range A.n).length * B.n := flat_len fun a _ => by rw [List.length_map, List.length_range]; exact Nat.le_refl _
      rw [List.length_range] at h1
      have h2 : A.n * B.n ≤ 10 * 10 := Nat.mul_le_mul ha hb
      omega
  unfold laidL
  rw [List.length_append, List.length_append, List.length_map]
  omega
theorem rd__law_two : ∀ bs Q, sp__law_two bs Q → w__law_two { nx := fun _ => Q .none, rt := Q } (bs ++ List.replicate (N__law_two.length - bs.length) .no) := by
  rintro bs Q ⟨A, B, b, hA, hB, rfl, q⟩
  have ha := hA.n
  have hb := hB.n
  have sa := hA.s
  have sb := hB.s
  have l1 := ties_100 A.lt ha
  have l2 := ties_100 B.lt hb
  let e1 : En := [.val (eF A), .val (eF B), .val (.bool b), .no, .no, .no]
  have hc := valP_lc (ρ := e1) (vs := [4, 5]) (wl := wSeqI (wOp Qd.rIxD (wVar 1) (wC (.int 1)))) (g := wgTup 2 (wgCons (wgName 4) (wgCons (wgName 5) wgNil))) (te := wTup (wCons (wOp rAddI (wVar 4) (wOp Qd.rIxD (wVar 0) (wC (.int 0)))) (wCons (wOp rAddI (wVar 5) (wOp Qd.rIxD (wVar 0) (wC (.int 0)))) wNil)))
    npr (fun x => npr (x.1 + A.n, x.2 + A.n)) (tiesL B.n B.lt) (by omega) (seqI_v rfl (fld1 (F := B) (var_v rfl))) (fun x hx Q q => g2_v (pair_v (add_v (var_v rfl) (fld0 (F := A) (var_v rfl))) (add_v (var_v rfl) (fld0 (F := A) (var_v rfl))) _ q))
  rw [show ((tiesL B.n B.lt).map fun x => npr (x.1 + A.n, x.2 + A.n)) = ((tiesL B.n B.lt).map fun x => (x.1 + A.n, x.2 + A.n)).map npr by rw [List.map_map]; rfl] at hc
  let P0 := tiesL A.n A.lt ++ (tiesL B.n B.lt).map fun x => (x.1 + A.n, x.2 + A.n)
  have hP0 : Val (wFz (wCat (wFz (wCallF rListD (wCons (wOp Qd.rIxD (wVar 0) (wC (.int 1))) wNil))) (wFz (wLc (wSeqI (wOp Qd.rIxD (wVar 1) (wC (.int 1)))) (wgTup 2 (wgCons (wgName 4) (wgCons (wgName 5) wgNil))) wYes (wTup (wCons (wOp rAddI (wVar 4) (wOp Qd.rIxD (wVar 0) (wC (.int 0)))) (wCons (wOp rAddI (wVar 5) (wOp Qd.rIxD (wVar 0) (wC (.int 0)))) wNil))) [4, 5])))) e1 (.list (P0.map npr)) := by
    rw [List.map_append]
    exact val_fz (cat_v (lst1 (fld1 (F := A) (var_v rfl))) (val_fz hc) (by rw [List.length_map, List.length_map, List.length_map]; omega))
  refine seq_set hP0 ?_
  have fin : ∀ (b4 b5 : Bd) (L : List Pr), L = laidL A B b → wRet (wCall sp__law_checked 3 (wB (wOp rAddI (wOp Qd.rIxD (wVar 0) (wC (.int 0))) (wOp Qd.rIxD (wVar 1) (wC (.int 0)))) (wB (wVar 3) (wB (wOp rAddT (wOp Qd.rIxD (wVar 0) (wC (.int 2))) (wOp Qd.rIxD (wVar 1) (wC (.int 2)))) wB0)))) { nx := fun _ => Q .none, rt := Q } [.val (eF A), .val (eF B), .val (.bool b), .val (.list (L.map npr)), b4, b5] := fun b4 b5 L e => by
    subst e
    have hll := laid_len ha hb b
    refine ret_c (call3_v (add_v (a := A.n) (b := B.n) (fld0 (F := A) (var_v rfl)) (fld0 (F := B) (var_v rfl))) (var_v rfl) (addT_v (xs := A.s.map ipr) (ys := B.s.map ipr) (fld2 (F := A) (var_v rfl)) (fld2 (F := B) (var_v rfl)) (by rw [List.length_map, List.length_map]; omega)) ⟨A.n + B.n, laidL A B b, A.s ++ B.s, _, by omega, fun x hx => ?_, by omega, by rw [List.length_append]; omega, .inl rfl, ?_, ?_⟩)
    · have := mem_ties.mp ((laid_mem x).mp hx)
      exact ⟨this.1, this.2.1⟩
    · rw [List.map_append]
    · rw [memR_laid hA hB]
      exact q
  cases b with
  | false =>
    refine seq_if (b := false) (fun Q q => q) (fun z => (by cases z)) (fun _ => ?_)
    exact fin _ _ P0 (by unfold laidL farL; simp [P0])
  | true =>
    refine seq_if (b := true) (fun Q q => q) (fun _ => ?_) (fun z => (by cases z))
    show wFor _ _ _ _ [.val (eF A), .val (eF B), .val (.bool true), .val (.list (P0.map npr)), .no, .no]
    have hP : P0.length ≤ 200 := by
      rw [List.length_append, List.length_map]
      omega
    refine for_v (rng_v (n := A.n) (fld0 (F := A) (var_v rfl)) (by omega)) ?_
    let row : Nat → List Pr := fun i => (List.range B.n).map fun j => (i, j + A.n)
    have hrow : ∀ i, (row i).length ≤ B.n := fun i => by rw [List.length_map, List.length_range]; exact Nat.le_refl _
    refine for_pre (all := List.range A.n) (fun (i : Nat) => PyData.int (i : Int)) (fun pre ρ => ∃ b4 b5, ρ = [.val (eF A), .val (eF B), .val (.bool true), .val (.list ((P0 ++ pre.flatMap row).map npr)), b4, b5]) ?_ ?_ (pre := []) rfl ⟨.no, .no, by simp⟩
    · rintro pre i post ρ E1 he ⟨b4, b5, rfl⟩ hrt hnx -
      have hpl := pairs_nodup_len he
      have hfl : (pre.flatMap row).length ≤ pre.length * B.n := flat_len fun a _ => hrow a
      have hfl' : pre.length * B.n ≤ 10 * 10 := Nat.mul_le_mul (by omega) (by omega)
      refine g1_v ?_
      show wSet _ _ E1 [.val (eF A), .val (eF B), .val (.bool true), .val (.list ((P0 ++ pre.flatMap row).map npr)), .val (nt i), b5]
      have hc3 := valP_lc (ρ := [.val (eF A), .val (eF B), .val (.bool true), .val (.list ((P0 ++ pre.flatMap row).map npr)), .val (nt i), b5]) (vs := [5]) (wl := wRng (wOp Qd.rIxD (wVar 1) (wC (.int 0)))) (g := wgName 5) (te := wTup (wCons (wVar 4) (wCons (wOp rAddI (wOp Qd.rIxD (wVar 0) (wC (.int 0))) (wVar 5)) wNil)))
        (fun (j : Nat) => PyData.int (j : Int)) (fun j => npr (i, j + A.n)) (List.range B.n) (by rw [List.length_range]; omega) (rng_v (fld0 (F := B) (var_v rfl)) (by omega)) (fun j hj Q q => g1_v (by
          rw [Nat.add_comm j A.n] at q
          exact pair_v (var_v rfl) (add_v (a := A.n) (b := j) (fld0 (F := A) (var_v rfl)) (var_v rfl)) _ q))
      rw [show (List.range B.n).map (fun j => npr (i, j + A.n)) = (row i).map npr by rw [List.map_map]; rfl] at hc3
      refine val_fz (cat_v (xs := (P0 ++ pre.flatMap row).map npr) (ys := (row i).map npr) (var_v rfl) (val_fz hc3) ?_) _ (hnx _ ⟨.val (nt i), b5, ?_⟩)
      · have := hrow i
        rw [List.length_map, List.length_map, List.length_append]
        omega
      · rw [List.flatMap_append, List.flatMap_cons, List.flatMap_nil, List.append_nil, ← List.append_assoc, List.map_append (l₂ := row i)]
        rfl
    · rintro ρ ⟨b4, b5, rfl⟩
      exact fin b4 b5 _ rfl
end Qp
set_option maxHeartbeats 2000000
namespace Qp
open PySem PySem.Spec PyProof.Rows L2 Qd
theorem seq_asg4 {a b c d : Nat} {we : WE} {rest : WS} {E : WEnds} {ρ : En} {x y z u : PyData} (h : Val we ρ (.tuple [x, y, z, u])) (k : rest E ((((ρ.set a (.val x)).set b (.val y)).set c (.val z)).set d (.val u))) : wSeq (wAsg we (wgTup 4 (wgCons (wgName a) (wgCons (wgName b) (wgCons (wgName c) (wgCons (wgName d) wgNil)))))) rest E ρ := h _ ⟨rfl, k⟩
theorem pairsK_map (f : Nat → PyData) : ∀ l : List (Nat × Nat), (∀ x ∈ l, f x.1 = nt x.2) → pairsK (l.map fun x => .tuple [nt x.1, nt x.2]) = some (l.map fun x => (keyN x.1, f x.1))
  | [], _ => rfl
  | x :: l, h => by
    show (match keyD (nt x.1), pairsK (l.map fun x => .tuple [nt x.1, nt x.2]) with
      | some k, some l => some ((k, nt x.2) :: l)
      | _, _ => none) = _
    rw [pairsK_map f l (fun y hy => h y (List.mem_cons_of_mem _ hy)), List.map_cons, h x List.mem_cons_self]
    rfl
theorem mergeN (f : Nat → PyData) : ∀ (ls ks : List Nat), (ks ++ ls).Nodup → mergeD (ks.map fun k => (keyN k, f k)) (ls.map fun k => (keyN k, f k)) = (ks ++ ls).map fun k => (keyN k, f k)
  | [], ks, _ => by rw [List.append_nil]; rfl
  | x :: ls, ks, nd => by
    have e : ks ++ x :: ls = (ks ++ [x]) ++ ls := by rw [List.append_assoc]; rfl
    rw [e] at nd ⊢
    have nk : x ∉ ks := fun z => (List.nodup_append.mp (List.nodup_append.mp nd).1).2.2 _ z _ (List.mem_singleton.mpr rfl) rfl
    show mergeD (putD (ks.map fun k => (keyN k, f k)) (keyN x) (f x)) (ls.map fun k => (keyN k, f k)) = _
    rw [putD_new keyN keyN_inj f x _ ks nk, ← mergeN f ls (ks ++ [x]) nd, List.map_append]
    rfl
theorem seq_dictN {i : Nat} {wl : WP} {rest : WS} {E : WEnds} {ρ : En} (f : Nat → PyData) {l : List (Nat × Nat)} (h : ValP wl ρ (l.map fun x => .tuple [nt x.1, nt x.2])) (hf : ∀ x ∈ l, f x.1 = nt x.2) (nd : (l.map (·.1)).Nodup) (q : rest E (ρ.set i (dKN f (l.map (·.1))))) : wSeq (wSetDict i wl) rest E ρ := h _ (by
  show (match pairsK (l.map fun x => .tuple [nt x.1, nt x.2]) with
    | some kvs => rest E (ρ.set i (.dK (mergeD [] kvs)))
    | none => False)
  rw [pairsK_map f l hf]
  have e := mergeN f (l.map (·.1)) [] (by rw [List.nil_append]; exact nd)
  rw [List.nil_append, List.map_map] at e
  show rest E (ρ.set i (.dK (mergeD (([] : List Nat).map fun k => (keyN k, f k)) (l.map ((fun k => (keyN k, f k)) ∘ (·.1))))))
  rw [e]
  unfold dKN at q
  rw [List.map_map] at q
  exact q)
theorem flip_mem {A : Fld} (h : WF A) : memR ((tiesL A.n A.lt).map fun x => (x.2, x.1)) = flipR A.lt := rel_ext fun i j => by
  rw [memR_iff, swap_mem, mem_ties]
  exact ⟨fun z => z.2.2, fun z => ⟨(flip_rng h i j z).1, (flip_rng h i j z).2, z⟩⟩
def keptL (A : Fld) (l : List Nat) : List Pr := ((tiesL A.n A.lt).filter fun x => decide (x.1 ∈ l) && decide (x.2 ∈ l)).map fun x => (l.idxOf x.1, l.idxOf x.2)
theorem mem_kept {A : Fld} {l : List Nat} {y : Pr} : y ∈ keptL A l ↔ ∃ x ∈ tiesL A.n A.lt, x.1 ∈ l ∧ x.2 ∈ l ∧ y = (l.idxOf x.1, l.idxOf x.2) := by
  unfold keptL
  rw [List.mem_map]
  constructor
  · rintro ⟨x, hx, rfl⟩
    obtain ⟨h1, h2⟩ := List.mem_filter.mp hx
    rw [Bool.and_eq_true, decide_eq_true_eq, decide_eq_true_eq] at h2
    exact ⟨x, h1, h2.1, h2.2, rfl⟩
  · rintro ⟨x, h1, h2, h3, rfl⟩
    exact ⟨x, List.mem_filter.mpr ⟨h1, by rw [decide_eq_true h2, decide_eq_true h3]; rfl⟩, rfl⟩
theorem kept_rel {A : Fld} (h : WF A) {l : List Nat} (nd : l.Nodup) : memR (keptL A l) = subR A.lt l := rel_ext fun i j => by
  rw [memR_iff, mem_kept, sub_iff]
  constructor
  · rintro ⟨x, hx, h1, h2, e⟩
    have e1 := congrArg Prod.fst e
    have e2 := congrArg Prod.snd e
    simp only [] at e1 e2
    refine ⟨x.1, x.2, ?_, ?_, (mem_ties.mp hx).2.2⟩
    · rw [e1]
      exact idx_get h1
    · rw [e2]
      exact idx_get h2
  · rintro ⟨a, b, ha, hb, hab⟩
    obtain ⟨hi, ea⟩ := List.getElem?_eq_some_iff.mp ha
    obtain ⟨hj, eb⟩ := List.getElem?_eq_some_iff.mp hb
    have hr := h.rng a b hab
    refine ⟨(a, b), mem_ties.mpr ⟨hr.1, hr.2, hab⟩, ea ▸ List.getElem_mem hi, eb ▸ List.getElem_mem hj, ?_⟩
    show (i, j) = (l.idxOf a, l.idxOf b)
    rw [← ea, ← eb, nd.idxOf_getElem, nd.idxOf_getElem]
theorem seen_lst {ρ : En} {wl : WP} {te : WE} {a b : Nat} {s : List (Int × Int)} (f : Int × Int → Int × Int) (hl : s.length ≤ 1000) (hw : ValP wl ρ (s.map ipr)) (h : ∀ x ∈ s, Val te (((wipeR ρ [a, b]).set a (.val (.int x.1))).set b (.val (.int x.2))) (ipr (f x))) :
    Val (wFz (wLc wl (wgTup 2 (wgCons (wgName a) (wgCons (wgName b) wgNil))) wYes te [a, b])) ρ (.list ((s.map f).map ipr)) := by
  rw [List.map_map]
  exact val_fz (valP_lc ipr (fun x => ipr (f x)) s hl hw (fun x hx Q q => g2_v (h x hx _ q)))
theorem max_v {we : WE} {ρ : En} {i j : Int} (h : Val we ρ (.tuple [.int i, .int j])) : Val (wCallB rMaxT (wCons we wNil)) ρ (.int (if j > i then j else i)) := fun Q q => h _ q
theorem rd__law_one : ∀ bs Q, sp__law_one bs Q → w__law_one { nx := fun _ => Q .none, rt := Q } (bs ++ List.replicate (N__law_one.length - bs.length) .no) := by
  rintro bs Q ⟨o, a, A, h, ho, rfl, q⟩
  have hn := h.n
  have hs := h.s
  have l1 := ties_45 h
  have hr : ∀ x ∈ tiesL A.n A.lt, x.1 < A.n ∧ x.2 < A.n := fun x hx => ⟨(mem_ties.mp hx).1, (mem_ties.mp hx).2.1⟩
  refine seq_asg4 (x := .str (opS o)) (y := nt A.n) (z := .list ((tiesL A.n A.lt).map npr)) (u := .tuple (A.s.map ipr)) (tup_v (cons_v (word_v (t := .one o a) (var_v rfl)) (cons_v (fld0 (F := A) (var_v rfl)) (cons_v (lst1 (fld1 (F := A) (var_v rfl))) (cons_v (fld2 (F := A) (var_v rfl)) nil_v)))) (by show 4 ≤ 1000; decide)) ?_
  cases o with
  | turned =>
    let e1 : En := [.val (eT (.one .turned a)), .val (eF A), .val (.str "turned"), .val (nt A.n), .val (.list ((tiesL A.n A.lt).map npr)), .val (.tuple (A.s.map ipr)), .no, .no, .no, .no, .no, .no, .no, .no, .no, .no]
    have hc := valP_lc (ρ := e1) (vs := [10, 11]) (wl := wSeqI (wVar 4)) (g := wgTup 2 (wgCons (wgName 10) (wgCons (wgName 11) wgNil))) (te := wTup (wCons (wVar 11) (wCons (wVar 10) wNil)))
      npr (fun x => npr (x.2, x.1)) (tiesL A.n A.lt) (by omega) (seqI_v rfl (var_v rfl)) (fun x hx Q q => g2_v (pair_v (var_v rfl) (var_v rfl) _ q))
    rw [show ((tiesL A.n A.lt).map fun x => npr (x.2, x.1)) = ((tiesL A.n A.lt).map fun x => (x.2, x.1)).map npr by rw [List.map_map]; rfl] at hc
    refine seq_t (eqS_b (var_v rfl) c_v rfl) (ret_c (call3_v (var_v rfl) (val_fz hc) (seen_lst (s := A.s) (fun x => (0 - x.1, x.2)) (by omega) (seqI_v rfl (var_v rfl)) (fun x hx => pair_v (subI_v c_v (var_v rfl)) (var_v rfl))) ⟨A.n, (tiesL A.n A.lt).map fun x => (x.2, x.1), A.s.map fun x => (0 - x.1, x.2), _, by omega, fun x hx => ?_, by rw [List.length_map]; omega, by rw [List.length_map]; omega, .inr rfl, rfl, ?_⟩))
    · obtain ⟨y, hy, rfl⟩ := List.mem_map.mp hx
      exact ⟨(hr y hy).2, (hr y hy).1⟩
    · rw [flip_mem h]
      exact q
  | moved d =>
    refine seq_f (eqS_b (var_v rfl) c_v rfl) (seq_t (eqS_b (var_v rfl) c_v rfl) (ret_c (call3_v (var_v rfl) (var_v rfl) (seen_lst (s := A.s) (fun x => (x.1 + d, x.2)) (by omega) (seqI_v rfl (var_v rfl)) (fun x hx => pair_v (addI_v (var_v rfl) (fun Q q => ⟨_, rfl, q⟩)) (var_v rfl))) ⟨A.n, tiesL A.n A.lt, A.s.map fun x => (x.1 + d, x.2), _, by omega, hr, by omega, by rw [List.length_map]; omega, .inr rfl, rfl, ?_⟩)))
    rw [memR_ties h]
    exact q
  | times k =>
    obtain ⟨k1, k2⟩ := ho
    refine seq_f (eqS_b (var_v rfl) c_v rfl) (seq_f (eqS_b (var_v rfl) c_v rfl) (seq_t (eqS_b (var_v rfl) c_v rfl) (ret_c (call3_v (var_v rfl) (var_v rfl) (seen_lst (s := A.s) (fun x => (x.1, x.2 * (k : Int))) (by omega) (seqI_v rfl (var_v rfl)) (fun x hx => pair_v (var_v rfl) (mulI_v (b := (k : Int)) (var_v rfl) (fun Q q => ⟨_, rfl, q⟩) (by omega)))) ⟨A.n, tiesL A.n A.lt, A.s.map fun x => (x.1, x.2 * (k : Int)), _, by omega, hr, by omega, by rw [List.length_map]; omega, .inr rfl, rfl, ?_⟩))))
    rw [memR_ties h]
    exact q
  | tied i j =>
    have hcut : ∀ ρ : En, ρ.getD 0 .no = .val (eT (.one (.tied i j) a)) → Val (wCut (wVar 0) (some 2) none) ρ (npr (i, j)) := fun ρ z Q q => var_v z _ q
    refine seq_f (eqS_b (var_v rfl) c_v rfl) (seq_f (eqS_b (var_v rfl) c_v rfl) (seq_f (eqS_b (var_v rfl) c_v rfl) (seq_t (eqS_b (var_v rfl) c_v rfl) (ret_c (if_e (lt_b (max_v (i := (i : Int)) (j := (j : Int)) (hcut _ rfl)) (var_v rfl) rfl) (fun e => ?_) (fun e => ?_))))))
    · have e := of_decide_eq_true e
      have hij : i < A.n ∧ j < A.n := by split at e <;> omega
      refine call3_v (var_v rfl) (e := .list ((tiesL A.n A.lt ++ [(i, j)]).map npr)) ?_ (var_v rfl) ⟨A.n, tiesL A.n A.lt ++ [(i, j)], A.s, _, by omega, fun x hx => ?_, by rw [List.length_append, List.length_singleton]; omega, by omega, .inl rfl, rfl, ?_⟩
      · rw [List.map_append]
        exact val_fz (cat_v (var_v rfl) (val_fz (lst_v (cons_v (hcut _ rfl) nil_v) (by show 1 ≤ 1000; decide))) (by rw [List.length_map]; show _ + 1 ≤ 1000; omega))
      · rcases List.mem_append.mp hx with hx | hx
        · exact hr x hx
        · rw [List.mem_singleton.mp hx]
          exact hij
      · rw [memR_add h]
        have q : Q (eFo (if i < A.n ∧ j < A.n then checked A.n (addR A.lt i j) A.s else none)) := q
        rw [if_pos hij] at q
        exact q
    · have e := of_decide_eq_false e
      have hij : ¬ (i < A.n ∧ j < A.n) := by split at e <;> omega
      have q : Q (eFo (if i < A.n ∧ j < A.n then checked A.n (addR A.lt i j) A.s else none)) := q
      rw [if_neg hij] at q
      exact q
  | only l =>
    have ok : LotOk 10 l := ⟨fun i hi => Nat.lt_succ_of_le (ho.1 i hi), ho.2⟩
    have hll := lot_len ok
    have hlot : ∀ ρ : En, ρ.getD 0 .no = .val (eT (.one (.only l) a)) → Val (wOp Qd.rIxD (wVar 0) (wC (.int 2))) ρ (nts l) := fun ρ z Q q => var_v z _ ⟨_, rfl, q⟩
    have q : Q (eFo (if l.all (fun i => decide (i < A.n)) = true then checked l.length (subR A.lt l) (l.map fun i => A.s.getD i (0, 0)) else none)) := q
    let e1 : En := [.val (eT (.one (.only l) a)), .val (eF A), .val (.str "only"), .val (nt A.n), .val (.list ((tiesL A.n A.lt).map npr)), .val (.tuple (A.s.map ipr)), .no, .no, .no, .no, .no, .no, .no, .no, .no, .no]
    have hc := valP_lcf (ρ := e1) (vs := [14]) (wl := wSeqI (wOp Qd.rIxD (wVar 0) (wC (.int 2)))) (g := wgName 14) (tt := wTst (wOp rGeI (wVar 14) (wVar 3))) (te := wC (.int 1)) nt (fun i => decide ((A.n : Int) ≤ (i : Int))) (fun _ => .int 1) l (by omega) (seqI_v (d := nts l) rfl (hlot _ rfl)) (fun i hi Q1 Q2 h1 h2 => g1_v (tst_if (ge_b (var_v rfl) (var_v rfl) rfl) h1 h2))
    have t1 := neD_t (val_fz hc) nil_l (shaped_intsG (fun _ : Nat => (1 : Int)) _) shaped_nl
    rw [eqv_isnil] at t1
    have hiff : (l.filter fun i : Nat => decide ((A.n : Int) ≤ (i : Int))) = [] ↔ l.all (fun i => decide (i < A.n)) = true := by
      rw [List.filter_eq_nil_iff, List.all_eq_true]
      constructor
      · intro z i hi
        have := z i hi
        rw [decide_eq_true_eq] at this
        exact decide_eq_true (by omega)
      · intro z i hi
        have := of_decide_eq_true (z i hi)
        rw [decide_eq_true_eq]
        omega
    refine seq_f (eqS_b (var_v rfl) c_v rfl) (seq_f (eqS_b (var_v rfl) c_v rfl) (seq_f (eqS_b (var_v rfl) c_v rfl) (seq_f (eqS_b (var_v rfl) c_v rfl) (seq_t (eqS_b (var_v rfl) c_v rfl) (seq_ifn t1 (fun e => ?_) (fun e => ?_))))))
    · rw [Bool.not_eq_true', decide_eq_false_iff_not, List.map_eq_nil_iff, hiff] at e
      rw [if_neg e] at q
      exact q
    · rw [Bool.not_eq_false', decide_eq_true_eq, List.map_eq_nil_iff, hiff] at e
      rw [if_pos e] at q
      have hlt : ∀ i ∈ l, i < A.n := fun i hi => of_decide_eq_true (List.all_eq_true.mp e i hi)
      let f : Nat → PyData := fun k => nt (l.idxOf k)
      have hdict := valP_lc (ρ := e1) (vs := [15, 14]) (wl := wEnum (wOp Qd.rIxD (wVar 0) (wC (.int 2)))) (g := wgTup 2 (wgCons (wgName 15) (wgCons (wgName 14) wgNil))) (te := wTup (wCons (wVar 14) (wCons (wVar 15) wNil))) (fun p : Nat × Nat => .tuple [nt p.2, nt p.1]) (fun p => .tuple [nt p.1, nt p.2]) l.zipIdx (by rw [List.length_zipIdx]; omega) (by rw [← enum_map]; exact enum_v (d := nts l) rfl (hlot _ rfl)) (fun p hp Q q => g2_v (pair_v (var_v rfl) (var_v rfl) _ q))
      refine seq_dictN f hdict (fun p hp => ?_) (by rw [List.zipIdx_map_fst]; exact ok.nodup) ?_
      · obtain ⟨x, i⟩ := p
        obtain ⟨_, h2, h3⟩ := List.mem_zipIdx hp
        simp only [Nat.sub_zero] at h3
        show nt (l.idxOf x) = nt i
        rw [h3, ok.nodup.idxOf_getElem]
      rw [List.zipIdx_map_fst]
      let e2 : En := [.val (eT (.one (.only l) a)), .val (eF A), .val (.str "only"), .val (nt A.n), .val (.list ((tiesL A.n A.lt).map npr)), .val (.tuple (A.s.map ipr)), dKN f l, .no, .no, .no, .no, .no, .no, .no, .no, .no]
      have hk := valP_lcf (ρ := e2) (vs := [10, 11]) (wl := wSeqI (wVar 4)) (g := wgTup 2 (wgCons (wgName 10) (wgCons (wgName 11) wgNil))) (tt := wAnd (wTst (wDIn false 6 (wVar 10))) (wTst (wDIn false 6 (wVar 11)))) (te := wTup (wCons (wDGt 6 (wVar 10)) (wCons (wDGt 6 (wVar 11)) wNil)))
        npr (fun x => decide (x.1 ∈ l) && decide (x.2 ∈ l)) (fun x => npr (l.idxOf x.1, l.idxOf x.2)) (tiesL A.n A.lt) (by omega) (seqI_v rfl (var_v rfl)) (fun x hx Q1 Q2 h1 h2 => g2_v (by
          refine tst_if (b := decide (x.1 ∈ l) && decide (x.2 ∈ l)) (and_v (val_tst (dIn_N (neg := false) (ks := l) (f := f) rfl (var_v rfl))) fun _ => val_tst (dIn_N (neg := false) (ks := l) (f := f) rfl (var_v rfl))) (fun e => ?_) h2
          have e' := e
          rw [Bool.and_eq_true, decide_eq_true_eq, decide_eq_true_eq] at e'
          exact pair_v (dGt_N (ks := l) (f := f) rfl (var_v rfl) e'.1) (dGt_N (ks := l) (f := f) rfl (var_v rfl) e'.2) _ (h1 e)))
      rw [show (((tiesL A.n A.lt).filter fun x => decide (x.1 ∈ l) && decide (x.2 ∈ l)).map fun x => npr (l.idxOf x.1, l.idxOf x.2)) = (keptL A l).map npr by unfold keptL; rw [List.map_map]; rfl] at hk
      refine seq_set (val_fz hk) ?_
      have hlenv := len_v (we := wOp Qd.rIxD (wVar 0) (wC (.int 2))) (ρ := e2.set 7 (.val (.list ((keptL A l).map npr)))) (d := nts l) (ds := l.map nt) rfl (hlot _ rfl)
      rw [List.length_map] at hlenv
      have hseen : Val (wFz (wLc (wSeqI (wOp Qd.rIxD (wVar 0) (wC (.int 2)))) (wgName 14) wYes (wOp Qd.rIxD (wVar 5) (wVar 14)) [14])) (e2.set 7 (.val (.list ((keptL A l).map npr)))) (.list ((l.map fun i => A.s.getD i (0, 0)).map ipr)) := by
        rw [List.map_map]
        exact val_fz (valP_lc nt (fun i => ipr (A.s.getD i (0, 0))) l (by omega) (seqI_v (d := nts l) rfl (hlot _ rfl)) (fun i hi Q q => g1_v (seen_v h (hlt i hi) (var_v rfl) (var_v rfl) _ q)))
      refine ret_c (call3_v hlenv (var_v rfl) hseen ⟨l.length, keptL A l, l.map fun i => A.s.getD i (0, 0), _, by omega, fun x hx => ?_, ?_, by rw [List.length_map]; omega, .inr rfl, rfl, ?_⟩)
      · obtain ⟨y, _, h1, h2, rfl⟩ := mem_kept.mp hx
        exact ⟨List.idxOf_lt_length_of_mem h1, List.idxOf_lt_length_of_mem h2⟩
      · unfold keptL
        rw [List.length_map]
        have : ((tiesL A.n A.lt).filter fun x => decide (x.1 ∈ l) && decide (x.2 ∈ l)).length ≤ (tiesL A.n A.lt).length := List.length_filter_le _ _
        omega
      · rw [kept_rel h ok.nodup]
        exact q
  | row k =>
    obtain ⟨k1, k2⟩ := ho
    refine seq_f (eqS_b (var_v rfl) c_v rfl) (seq_f (eqS_b (var_v rfl) c_v rfl) (seq_f (eqS_b (var_v rfl) c_v rfl) (seq_f (eqS_b (var_v rfl) c_v rfl) (seq_f (eqS_b (var_v rfl) c_v rfl) ?_))))
    refine seq_set (d := eF A) (var_v rfl) ?_
    refine seq_for (ds := (List.range (k - 1)).map fun (i : Nat) => PyData.int (i : Int)) (fun Q q => ⟨_, rfl, trivial, ⟨by omega, by omega⟩, ?_⟩) ?_
    · rw [show ((k : Int) - 1).toNat = k - 1 by omega, rng_map]
      exact q
    refine for_pre (all := List.range (k - 1)) (fun (i : Nat) => PyData.int (i : Int)) (fun pre ρ => ∃ G b9, ρ = [.val (eT (.one (.row k) a)), .val (eF A), .val (.str "row"), .val (nt A.n), .val (.list ((tiesL A.n A.lt).map npr)), .val (.tuple (A.s.map ipr)), .no, .no, .val (eFo G), b9, .no, .no, .no, .no, .no, .no] ∧ (∀ G', G = some G' → WF G') ∧ rowN A (k - 1 - pre.length) G = rowN A (k - 1) (some A)) ?_ ?_ (pre := []) rfl ⟨some A, .no, rfl, fun G' e => (by cases e; exact h), rfl⟩
    · rintro pre i post ρ E1 he ⟨G, b9, rfl, hG, eG⟩ hrt hnx -
      have hpl := pairs_nodup_len he
      rw [show k - 1 - pre.length = (k - 1 - (pre.length + 1)) + 1 by omega] at eG
      replace eG : rowN A (k - 1 - (pre.length + 1)) (G.bind fun F => two F A true) = rowN A (k - 1) (some A) := eG
      refine g1_v ?_
      show wSet _ _ E1 [.val (eT (.one (.row k) a)), .val (eF A), .val (.str "row"), .val (nt A.n), .val (.list ((tiesL A.n A.lt).map npr)), .val (.tuple (A.s.map ipr)), .no, .no, .val (eFo G), .val (nt i), .no, .no, .no, .no, .no, .no]
      cases G with
      | none =>
        refine if_e (b := false) (fun Q q => q) (fun z => by cases z) (fun _ => ?_)
        refine hnx _ ⟨none, .val (nt i), rfl, fun G' e => (by cases e), ?_⟩
        rw [List.length_append, List.length_singleton]
        exact eG
      | some G =>
        refine if_e (b := true) (fun Q q => q) (fun _ => ?_) (fun z => by cases z)
        refine call3_v (d := eF G) (var_v rfl) (var_v rfl) c_v ⟨G, A, true, hG G rfl, h, rfl, hnx _ ⟨two G A true, .val (nt i), rfl, fun G' e => (two_laid (hG G rfl) h e).2, ?_⟩⟩
        rw [List.length_append, List.length_singleton]
        exact eG
    · rintro ρ ⟨G, b9, rfl, hG, eG⟩
      rw [List.length_range, Nat.sub_self] at eG
      have eG : G = rowN A (k - 1) (some A) := eG
      have q : Q (eFo (rowN A (k - 1) (some A))) := q
      rw [← eG] at q
      exact q
end Qp
set_option maxHeartbeats 2000000
namespace Qp
open PySem PySem.Spec PyProof.Rows L2 Qd
theorem eqv_str (a b : Str) : PyData.eqv (.str a) (.str b) = decide (a = b) := by
  unfold PyData.eqv
  rfl
theorem in_str {wa : WE} {ρ : En} {w a b : Str} {c : Bool} (ha : Val wa ρ (.str w)) (h : (decide (a = w) || decide (b = w)) = c) : Tst (wTst (wOp (rInD false) wa (wTup (wCons (wC (.str a)) (wCons (wC (.str b)) wNil))))) ρ c := fun Q q => ha _ (by
  refine ⟨by show 2 ≤ sizeLine; rw [sizeLine_eq]; decide, ⟨rfl, rfl⟩, ?_⟩
  have e : inD (.str w) [.str a, .str b] = c := by
    unfold inD
    rw [List.any_cons, List.any_cons, List.any_nil, eqv_str, eqv_str, Bool.or_false]
    exact h
  rw [e]
  exact q)
theorem rd__law_put : ∀ bs Q, sp__law_put bs Q → w__law_put { nx := fun _ => Q .none, rt := Q } (bs ++ List.replicate (N__law_put.length - bs.length) .no) := by
  rintro bs Q ⟨t, Fs, ho, hk, hw, rfl, q⟩
  have h0 : ∀ ρ : En, ρ.getD 0 .no = .val (eT t) → Val (wOp Qd.rIxD (wVar 0) (wC (.int 0))) ρ (.str (wordT t)) := fun ρ z => word_v (var_v z)
  cases t with
  | thing w h =>
    refine seq_t (in_str (c := true) (h0 _ rfl) rfl) (ret_c (if_e (eqS_b (c := true) (h0 _ rfl) c_v rfl) (fun _ => ?_) (fun z => by cases z)))
    exact trip_v (a := .int 1) c_v (b := .tuple []) (tup_v nil_v (Nat.zero_le _)) (tup_v (cons_v (d := ipr (w, h)) (fun Q q => q) nil_v) (by show 1 ≤ 1000; decide)) _ q
  | nil =>
    refine seq_t (in_str (c := true) (h0 _ rfl) rfl) (ret_c (if_e (eqS_b (c := false) (h0 _ rfl) c_v rfl) (fun z => by cases z) (fun _ => ?_)))
    exact trip_v (a := .int 0) c_v (b := .tuple []) (tup_v nil_v (Nat.zero_le _)) (tup_v nil_v (Nat.zero_le _)) _ q
  | dbl u a b =>
    rcases Fs with _ | ⟨A, _ | ⟨B, _ | ⟨C, Fs⟩⟩⟩
    · simp [kids] at hk
    · simp [kids] at hk
    · injection hk with h1 h2
      injection h2 with h2 _
      have q : Q (eFo ((den a).bind fun A => (den b).bind fun B => two A B u)) := q
      rw [h1, h2] at q
      refine seq_f (in_str (c := false) (h0 _ rfl) (by cases u <;> rfl)) (seq_t (eq_b (a := ((2 : Nat) : Int)) (len_v (ds := [eF A, eF B]) (d := .list [eF A, eF B]) rfl (var_v rfl)) c_v rfl) ?_)
      refine ⟨_, rfl, _, rfl, _, rfl, ?_⟩
      have hu : decide ((if u then "below" else "beside" : Str) = "below") = u := by cases u <;> rfl
      refine ⟨rfl, A, B, u, hw A (by simp), hw B (by simp), ?_, q⟩
      show [Bd.val (eF A), Bd.val (eF B), Bd.val (.bool (decide ((if u then "below" else "beside" : Str) = "below")))] = _
      rw [hu]
    · simp [kids] at hk
  | one o a =>
    rcases Fs with _ | ⟨A, _ | ⟨B, Fs⟩⟩
    · simp [kids] at hk
    · injection hk with h1 _
      have q : Q (eFo ((den a).bind fun A => denO A o)) := q
      rw [h1] at q
      refine seq_f (in_str (c := false) (h0 _ rfl) (by cases o <;> rfl)) (seq_f (eq_b (a := ((1 : Nat) : Int)) (len_v (ds := [eF A]) (d := .list [eF A]) rfl (var_v rfl)) c_v rfl) ?_)
      exact ⟨_, rfl, rfl, o, a, A, hw A (by simp), ho, rfl, q⟩
    · simp [kids] at hk
theorem rd__law_kids : ∀ bs Q, sp__law_kids bs Q → w__law_kids { nx := fun _ => Q .none, rt := Q } (bs ++ List.replicate (N__law_kids.length - bs.length) .no) := by
  rintro bs Q ⟨t, rfl, q⟩
  have h0 : ∀ ρ : En, ρ.getD 0 .no = .val (eT t) → Val (wOp Qd.rIxD (wVar 0) (wC (.int 0))) ρ (.str (wordT t)) := fun ρ z => word_v (var_v z)
  cases t with
  | thing w h => exact seq_t (in_str (c := true) (h0 _ rfl) rfl) (ret_v (tup_v nil_v (Nat.zero_le _)) q)
  | nil => exact seq_t (in_str (c := true) (h0 _ rfl) rfl) (ret_v (tup_v nil_v (Nat.zero_le _)) q)
  | dbl u a b =>
    refine seq_f (in_str (c := false) (h0 _ rfl) (by cases u <;> rfl)) (ret_c (if_e (in_str (c := true) (h0 _ rfl) (by cases u <;> rfl)) (fun _ => ?_) (fun z => by cases z)))
    exact q
  | one o a =>
    refine seq_f (in_str (c := false) (h0 _ rfl) (by cases o <;> rfl)) (ret_c (if_e (in_str (c := false) (h0 _ rfl) (by cases o <;> rfl)) (fun z => by cases z) (fun _ => ?_)))
    cases o <;> exact q
end Qp
set_option maxHeartbeats 2000000
namespace Qp
open PySem PySem.Spec PyProof.Rows L2 Qd
theorem eqv_all : ∀ {xs : List PyData}, (∀ x ∈ xs, PyData.eqv x x = true) → PyData.eqvAll xs xs = true
  | [], _ => by unfold PyData.eqvAll; rfl
  | x :: xs, h => by
    unfold PyData.eqvAll
    rw [h x List.mem_cons_self, eqv_all fun y hy => h y (List.mem_cons_of_mem _ hy)]
    rfl
theorem eqv_tup (xs ys : List PyData) : PyData.eqv (.tuple xs) (.tuple ys) = PyData.eqvAll xs ys := by
  conv => lhs; unfold PyData.eqv
theorem eqv_eG (g : List (Int × Int)) : PyData.eqv (eG g) (eG g) = true := by
  unfold eG
  rw [eqv_tup]
  refine eqv_all fun x hx => ?_
  obtain ⟨y, _, rfl⟩ := List.mem_map.mp hx
  rw [eqv_tup]
  refine eqv_all fun z hz => ?_
  rcases List.mem_cons.mp hz with rfl | hz
  · rw [eqv_int]
    exact decide_eq_true rfl
  · rw [List.mem_singleton.mp hz, eqv_int]
    exact decide_eq_true rfl
theorem shaped_eG (g : List (Int × Int)) : SeqAt.shaped (eG g) = true := by
  unfold SeqAt.shaped eG
  rw [lay_tup, lay_map, Bool.true_and, dep_tup]
  · have := dep_map (k := 1) (f := ipr) (fun x => by rw [dep_tup, dep_cons, dep_cons, dep_nil, dep_int, dep_int]; decide) g
    exact decide_eq_true (by omega)
  · intro x
    rw [lay_tup, lay_cons, lay_cons, lay_nil, lay_int, lay_int]
    rfl
theorem relU_irr {A B : Fld} (ha : WF A) (hb : WF B) {b : Bool} (i : Nat) : relU A B b i i = false := by
  unfold relU
  by_cases h : i < A.n
  · rw [if_pos h, if_pos h]
    exact ha.irr i
  · rw [if_neg h, if_neg h]
    exact hb.irr _
theorem two_swap {A B H : Fld} (ha : WF A) (hb : WF B) {b c : Bool} (h : two A B b = some H) : two A B c = some (laidF A B c) := by
  obtain ⟨h1, h2, _, _⟩ := checked_some h
  unfold two checked
  rw [clo_self (relU_rng ha hb) (relU_tr ha hb), if_pos]
  · rfl
  · exact ⟨h1, List.all_eq_true.mpr h2, List.all_eq_true.mpr fun i _ => by rw [relU_irr ha hb]; rfl⟩
theorem good_dbl {t u : Tm} {F G H : Fld} {b : Bool} (ht : Good t F) (hu : Good u G) (hw : words t + words u ≤ 19) (h1 : high t ≤ 7) (h2 : high u ≤ 7) (e : two F G b = some H) : Good (.dbl b t u) H := by
  refine ⟨?_, ⟨ht.form, hu.form⟩, by simp only [words]; omega, by simp only [high]; omega⟩
  show ((den t).bind fun A => (den u).bind fun B => two A B b) = some H
  rw [ht.den, hu.den]
  exact e
theorem times_some {F : Fld} (h : WF F) {k : Nat} (hk : 1 ≤ k) (hs : ∀ x ∈ F.s, x.2 * (k : Int) ≤ 1000) : denO F (.times k) = some ⟨F.n, F.lt, F.s.map fun x => (x.1, x.2 * (k : Int))⟩ := by
  show checked F.n F.lt (F.s.map fun x => (x.1, x.2 * (k : Int))) = _
  unfold checked
  rw [clo_self h.rng h.tr, if_pos]
  refine ⟨h.n, ?_, List.all_eq_true.mpr fun i _ => by rw [h.irr]; rfl⟩
  refine List.all_eq_true.mpr fun y hy => ?_
  obtain ⟨x, hx, rfl⟩ := List.mem_map.mp hy
  have h1 := okSeen_bd (h.ok x hx)
  have h2 := hs x hx
  have h3 : 1 ≤ x.2 * (k : Int) := Int.le_trans h1.2.2.1 (by
    have := Int.mul_le_mul_of_nonneg_left (show (1 : Int) ≤ (k : Int) by omega) (show (0 : Int) ≤ x.2 by omega)
    omega)
  unfold okSeen
  simp only [Bool.and_eq_true, decide_eq_true_eq]
  omega
theorem times_f {we : WE} {ρ : En} {t : Tm} (h : Val we ρ (eT t)) : Val (wTup (wCons (wC (.str "times")) (wCons we (wCons (wC (.int 3)) wNil)))) ρ (eT (.one (.times 3) t)) := trip_v (a := .str "times") (c := .int 3) c_v h c_v
theorem dbl_f {wa wb : WE} {ρ : En} {t u : Tm} {b : Bool} {w : Str} (hw : (if b then "below" else "beside" : Str) = w) (ha : Val wa ρ (eT t)) (hb : Val wb ρ (eT u)) : Val (wTup (wCons (wC (.str w)) (wCons wa (wCons wb wNil)))) ρ (eT (.dbl b t u)) := by
  have := trip_v (wa := wC (.str w)) (ρ := ρ) (a := .str w) c_v ha hb
  rw [← hw] at this ⊢
  exact this
/-- the best table of a term's field -/
theorem best_of {we : WE} {ρ : En} {t : Tm} {F : Fld} {g : List (Int × Int)} (hg : Good t F) (ht : IsTab F g) (h : Val we ρ (eT t)) : Val (wCall sp_best_table 1 (wB (wCall sp_field_of 1 (wB we wB0)) wB0)) ρ (eG g) := fun Q q => call1_v (d := eF F) (fun Q q => call1_v h ⟨t, F, hg, rfl, q⟩) ⟨F, hg.wf, rfl, fun g' h' => by
  rw [tab_uniq h' ht]
  exact q⟩
def fallL (g1 g2 : List (Int × Int)) : List PyData := g1.flatMap fun x => (g2.filter fun y => decide (y.1 * x.2 < x.1 * y.2)).map fun _ => .int 1
theorem fall_shaped (g1 g2 : List (Int × Int)) : SeqAt.shaped (.list (fallL g1 g2)) = true := by
  have : ∃ l : List Nat, fallL g1 g2 = l.map fun _ => PyData.int 1 := by
    unfold fallL
    induction g1 with
    | nil => exact ⟨[], rfl⟩
    | cons x g1 ih =>
      obtain ⟨l, e⟩ := ih
      refine ⟨(g2.filter fun y => decide (y.1 * x.2 < x.1 * y.2)).map (fun _ => 0) ++ l, ?_⟩
      rw [List.flatMap_cons, e, List.map_append, List.map_map]
      rfl
  obtain ⟨l, e⟩ := this
  rw [e]
  exact shaped_intsG (fun _ : Nat => (1 : Int)) l
theorem fall_nil {g1 g2 : List (Int × Int)} (h : fallL g1 g2 = []) : ∀ x ∈ g1, ∀ y ∈ g2, x.1 * y.2 ≤ y.1 * x.2 := fun x hx y hy => by
  unfold fallL at h
  rw [List.flatMap_eq_nil_iff] at h
  have := h x hx
  rw [List.map_eq_nil_iff, List.filter_eq_nil_iff] at this
  have := this y hy
  rw [decide_eq_true_eq] at this
  omega
theorem rd__law_facts_right : ∀ bs Q, sp__law_facts_right bs Q → w__law_facts_right { nx := fun _ => Q .none, rt := Q } (bs ++ List.replicate (N__law_facts_right.length - bs.length) .no) := by
  rintro bs Q ⟨t, F, u, G, ht, hu, hw, h1, h2, h3, rfl, q⟩
  have hF := ht.wf
  have hG := hu.wf
  refine ⟨rfl, F, hF, rfl, fun g1 hg1 => ⟨rfl, G, hG, rfl, fun g2 hg2 => ?_⟩⟩
  have l1 := hg1.len
  have l2 := hg2.len
  have n1 := hF.n
  have n2 := hG.n
  show wSeq (wSet 6 (wCall sp__law_two 3 (wB (wVar 1) (wB (wVar 3) (wB (wC (.bool false)) wB0))))) _ _ [.val (eT t), .val (eF F), .val (eT u), .val (eF G), .val (eG g1), .val (eG g2), .no, .no, .no, .no]
  refine seq_set (d := eFo (two F G false)) (fun Q q => call3_v (var_v rfl) (var_v rfl) c_v ⟨F, G, false, hF, hG, rfl, q⟩) ?_
  let e1 : En := [.val (eT t), .val (eF F), .val (eT u), .val (eF G), .val (eG g1), .val (eG g2), .val (eFo (two F G false)), .no, .no, .no]
  have hboth : ∀ ρ : En, ρ.getD 6 .no = .val (eFo (two F G false)) → Tst (wTst (wOp rNotN (wVar 6) (wC .none))) ρ (two F G false).isSome := fun ρ z Q q => var_v z _ (by
    cases c : two F G false with
    | none => rw [c] at q; exact q
    | some H => rw [c] at q; exact q)
  have hsum : ∀ ρ : En, ρ.getD 4 .no = .val (eG g1) → ρ.getD 5 .no = .val (eG g2) → Val (wOp rAddT (wVar 4) (wVar 5)) ρ (eG (g1 ++ g2)) := fun ρ z1 z2 => by
    unfold eG
    rw [List.map_append]
    exact addT_v (var_v z1) (var_v z2) (by rw [List.length_map, List.length_map]; omega)
  have t1 : Tst (wAnd (wTst (wOp rNotN (wVar 6) (wC .none))) (wTst (wOp rNeD (wCall sp_best_table 1 (wB (wCall sp_field_of 1 (wB (wTup (wCons (wC (.str "beside")) (wCons (wVar 0) (wCons (wVar 2) wNil)))) wB0)) wB0)) (wOp rAddT (wVar 4) (wVar 5))))) e1 false := by
    cases c : two F G false with
    | none =>
      have := hboth e1 rfl
      rw [c] at this
      exact and_f this
    | some H =>
      have hb := hboth e1 rfl
      rw [c] at hb
      obtain ⟨rfl, _⟩ := two_laid hF hG c
      have := neD_t (best_of (g := g1 ++ g2) (good_dbl ht hu hw h1 h2 c) (tab_beside hF hG hg1 hg2) (dbl_f (b := false) rfl (var_v (ρ := e1) (i := 0) rfl) (var_v (i := 2) rfl))) (hsum e1 rfl rfl) (shaped_eG _) (shaped_eG _)
      rw [eqv_eG] at this
      exact and_s hb this
  refine seq_f t1 ?_
  refine seq_set nil_l ?_
  refine seq_for (ds := g1.map ipr) (seqI_v (d := eG g1) rfl (var_v rfl)) ?_
  refine for_pre (all := g1) ipr (fun pre ρ => ∃ b8 b9, ρ = [.val (eT t), .val (eF F), .val (eT u), .val (eF G), .val (eG g1), .val (eG g2), .val (eFo (two F G false)), .val (.list (fallL pre g2)), b8, b9]) ?_ ?_ (pre := []) rfl ⟨.no, .no, rfl⟩
  · rintro pre x post ρ E1 he ⟨b8, b9, rfl⟩ hrt hnx -
    have hx : x ∈ g1 := by rw [← he]; simp
    have hpl : pre.length < g1.length := by
      rw [← he, List.length_append, List.length_cons]
      omega
    have hr := hg1.red x hx
    refine g1_v ?_
    show wSet _ _ E1 [.val (eT t), .val (eF F), .val (eT u), .val (eF G), .val (eG g1), .val (eG g2), .val (eFo (two F G false)), .val (.list (fallL pre g2)), .val (ipr x), b9]
    have hc := valP_lcf (ρ := [.val (eT t), .val (eF F), .val (eT u), .val (eF G), .val (eG g1), .val (eG g2), .val (eFo (two F G false)), .val (.list (fallL pre g2)), .val (ipr x), b9]) (vs := [9]) (wl := wSeqI (wVar 5)) (g := wgName 9) (tt := wTst (wOp rGtI (wOp rMulI (wOp Qd.rIxD (wVar 8) (wC (.int 0))) (wOp Qd.rIxD (wVar 9) (wC (.int 1)))) (wOp rMulI (wOp Qd.rIxD (wVar 9) (wC (.int 0))) (wOp Qd.rIxD (wVar 8) (wC (.int 1)))))) (te := wC (.int 1))
      ipr (fun y => decide (y.1 * x.2 < x.1 * y.2)) (fun _ => .int 1) g2 (by omega) (seqI_v (d := eG g2) rfl (var_v rfl)) (fun y hy Q1 Q2 q1 q2 => g1_v (by
        have hy2 := hg2.red y hy
        exact tst_if (b := decide (y.1 * x.2 < x.1 * y.2)) (gt_b (mulI_v (pr0 (x := x) (var_v rfl)) (pr1 (x := y) (var_v rfl)) (by omega)) (mulI_v (pr0 (x := y) (var_v rfl)) (pr1 (x := x) (var_v rfl)) (by omega)) rfl) q1 q2))
    have hfl : (fallL pre g2).length ≤ pre.length * g2.length := flat_len fun a _ => by rw [List.length_map]; exact List.length_filter_le _ _
    have hfl' : pre.length * g2.length ≤ 10 * 10 := Nat.mul_le_mul (by omega) (by omega)
    refine val_fz (cat_v (var_v rfl) (val_fz hc) ?_) _ (hnx _ ⟨.val (ipr x), b9, ?_⟩)
    · have : (g2.filter fun y => decide (y.1 * x.2 < x.1 * y.2)).length ≤ g2.length := List.length_filter_le _ _
      rw [List.length_map]
      omega
    · unfold fallL
      rw [List.flatMap_append, List.flatMap_cons, List.flatMap_nil, List.append_nil]
      rfl
  · rintro ρ ⟨b8, b9, rfl⟩
    let e2 : En := [.val (eT t), .val (eF F), .val (eT u), .val (eF G), .val (eG g1), .val (eG g2), .val (eFo (two F G false)), .val (.list (fallL g1 g2)), b8, b9]
    have t2 : Tst (wAnd (wTst (wOp rNotN (wVar 6) (wC .none))) (wAnd (wTst (wOp Qd.rEqD (wVar 7) (wFz (wLst wNil)))) (wTst (wOp rNeD (wCall sp_best_table 1 (wB (wCall sp_field_of 1 (wB (wTup (wCons (wC (.str "below")) (wCons (wVar 0) (wCons (wVar 2) wNil)))) wB0)) wB0)) (wOp rAddT (wVar 4) (wVar 5)))))) e2 false := by
      cases c : two F G false with
      | none =>
        have := hboth e2 rfl
        rw [c] at this
        exact and_f this
      | some H =>
        have hb := hboth e2 rfl
        rw [c] at hb
        refine and_s hb ?_
        have hfe := eqD_t (var_v (ρ := e2) (i := 7) rfl) nil_l (fall_shaped g1 g2) shaped_nl
        rw [eqv_isnil] at hfe
        by_cases hfn : fallL g1 g2 = []
        · rw [decide_eq_true hfn] at hfe
          have c2 := two_swap hF hG (c := true) c
          have := neD_t (best_of (g := g1 ++ g2) (good_dbl ht hu hw h1 h2 c2) (tab_below hF hG hg1 hg2 (fall_nil hfn)) (dbl_f (b := true) rfl (var_v (ρ := e2) (i := 0) rfl) (var_v (i := 2) rfl))) (hsum e2 rfl rfl) (shaped_eG _) (shaped_eG _)
          rw [eqv_eG] at this
          exact and_s hfe this
        · rw [decide_eq_false hfn] at hfe
          exact and_f hfe
    show wSeq (wIfS (wAnd (wTst (wOp rNotN (wVar 6) (wC .none))) (wAnd (wTst (wOp Qd.rEqD (wVar 7) (wFz (wLst wNil)))) (wTst (wOp rNeD (wCall sp_best_table 1 (wB (wCall sp_field_of 1 (wB (wTup (wCons (wC (.str "below")) (wCons (wVar 0) (wCons (wVar 2) wNil)))) wB0)) wB0)) (wOp rAddT (wVar 4) (wVar 5)))))) (wRet (wC (.bool false))) wNext) _ { nx := fun _ => Q .none, rt := Q } e2
    refine seq_f t2 ?_
    have hk := times_some hF (k := 3) (by omega) (fun x hx => by have := h3 x hx; omega)
    have hgt : Good (.one (.times 3) t) ⟨F.n, F.lt, F.s.map fun x => (x.1, x.2 * ((3 : Nat) : Int))⟩ := by
      refine ⟨?_, ⟨⟨by omega, by omega⟩, ht.form⟩, by have := words_pos u; simp only [words]; omega, by simp only [high]; omega⟩
      show ((den t).bind fun A => denO A (.times 3)) = _
      rw [ht.den]
      exact hk
    have tb := best_of hgt (tab_times (k := 3) (by omega) hg1) (times_f (var_v (ρ := e2) (i := 0) rfl))
    refine ret_c (tb _ (var_v (d := eG g1) rfl _ ⟨⟨shaped_eG _, shaped_eG _⟩, ?_⟩))
    rw [eqv_eG]
    exact q
end Qp
set_option maxHeartbeats 2000000
namespace Qp
open PySem PySem.Spec PyProof.Rows L2 Qd
/-! ### how long what is shown is -/
def shL (d : PyData) : Nat := d.shown.length
def sumS : List PyData → Nat
  | [] => 0
  | x :: xs => shL x + sumS xs
theorem sumS_eq : ∀ xs : List PyData, ((PyData.shownAll xs).map (·.length)).sum = sumS xs
  | [] => by simp only [PyData.shownAll]; rfl
  | x :: xs => by
    simp only [PyData.shownAll, List.map_cons, List.sum_cons]
    rw [sumS_eq xs]
    rfl
theorem sl_join (xs : List PyData) : (Str.join ", " (PyData.shownAll xs)).length ≤ sumS xs + xs.length * 2 := by
  have h := StrLaws.join_length_le ", " (PyData.shownAll xs)
  rw [sumS_eq, PyData.shownAll_length] at h
  exact h
theorem sl_tup (xs : List PyData) : shL (.tuple xs) ≤ sumS xs + xs.length * 2 + 3 := by
  unfold shL
  rw [PyData.shown_tuple, Str.length_append, Str.length_append]
  have h := sl_join xs
  have h1 : ("(" : Str).length = 1 := rfl
  have h2 : ((if xs.length == 1 then ",)" else ")" : String) : Str).length ≤ 2 := by
    split <;> decide
  omega
theorem sl_lst (xs : List PyData) : shL (.list xs) ≤ sumS xs + xs.length * 2 + 2 := by
  unfold shL
  rw [PyData.shown_list, Str.length_append, Str.length_append]
  have h := sl_join xs
  have h1 : ("[" : Str).length = 1 := rfl
  have h2 : ("]" : Str).length = 1 := rfl
  omega
theorem sl_int {i : Int} (h : i.natAbs < 10 ^ 9) : shL (.int i) ≤ 10 := by
  unfold shL
  simp only [PyData.shown]
  have e := int_text_length_le10 (k := 9) (by decide) h
  rw [PySem.ofString_length]
  exact e
theorem sumS_map {α : Type} {f : α → PyData} {k : Nat} : ∀ {xs : List α}, (∀ x ∈ xs, shL (f x) ≤ k) → sumS (xs.map f) ≤ xs.length * k
  | [], _ => Nat.zero_le _
  | x :: xs, h => by
    have h1 := h x List.mem_cons_self
    have h2 := sumS_map fun y hy => h y (List.mem_cons_of_mem x hy)
    rw [List.map_cons, List.length_cons, Nat.add_mul, Nat.one_mul]
    show shL (f x) + sumS (xs.map f) ≤ _
    omega
theorem word_len (t : Tm) : shL (.str (wordT t)) ≤ 20 := by
  have h : ∀ z ∈ ([("row" : Str), "turned", "moved", "times", "tied", "only", "thing", "none", "below", "beside"] : List Str), (reprText z).length ≤ 20 := by decide +kernel
  have e : ∀ z : Str, shL (.str z) = (reprText z).length := fun z => by unfold shL; simp only [PyData.shown]
  rw [e]
  refine h _ ?_
  cases t with
  | thing _ _ => simp [wordT]
  | nil => simp [wordT]
  | dbl u _ _ => cases u <;> simp [wordT]
  | one o _ => cases o <;> simp [wordT, opS]
theorem sl_nat {i : Nat} (h : i ≤ 1000000) : shL (nt i) ≤ 10 := sl_int (by show (i : Int).natAbs < _; omega)
theorem sl_nts {l : List Nat} (hl : l.length ≤ 10) (h : ∀ i ∈ l, i ≤ 1000000) : shL (nts l) ≤ 130 := by
  have h1 := sl_tup (l.map nt)
  have h2 : sumS (l.map nt) ≤ l.length * 10 := sumS_map fun i hi => sl_nat (h i hi)
  rw [List.length_map] at h1
  show shL (.tuple (l.map nt)) ≤ 130
  omega
theorem opA_len {o : Op} (h : ownO o) : sumS (opA o) ≤ 130 ∧ (opA o).length ≤ 2 := by
  cases o with
  | row k => exact ⟨by have := sl_nat (i := k) (by have := h.2; omega); show shL (nt k) + 0 ≤ 130; omega, by show 1 ≤ 2; decide⟩
  | turned => exact ⟨Nat.zero_le _, by decide⟩
  | moved d => exact ⟨by have := sl_int (i := d) (by obtain ⟨h1, h2⟩ := h; omega); show shL (.int d) + 0 ≤ 130; omega, by show 1 ≤ 2; decide⟩
  | times k => exact ⟨by have := sl_nat (i := k) (by have := h.2; omega); show shL (nt k) + 0 ≤ 130; omega, by show 1 ≤ 2; decide⟩
  | tied i j => exact ⟨by have := sl_nat (i := i) (by have := h.1; omega); have := sl_nat (i := j) (by have := h.2.1; omega); show shL (nt i) + (shL (nt j) + 0) ≤ 130; omega, by show 2 ≤ 2; decide⟩
  | only l =>
    have ok : LotOk 10 l := ⟨fun i hi => Nat.lt_succ_of_le (h.1 i hi), h.2⟩
    exact ⟨by have := sl_nts (lot_len ok) (fun i hi => by have := h.1 i hi; omega); show shL (nts l) + 0 ≤ 130; omega, by show 1 ≤ 2; decide⟩
theorem eT_len : ∀ {t : Tm}, form t → shL (eT t) ≤ 300 * words t
  | .thing w h, f => by
    have f := okSeen_bd f
    have h1 := sl_tup [.str "thing", .int w, .int h]
    have h2 := word_len (.thing w h)
    have h3 := sl_int (i := w) (by simp only [] at f; omega)
    have h4 := sl_int (i := h) (by simp only [] at f; omega)
    have e : sumS [.str "thing", .int w, .int h] = shL (.str (wordT (.thing w h))) + (shL (.int w) + (shL (.int h) + 0)) := rfl
    rw [e] at h1
    show shL (.tuple [.str "thing", .int w, .int h]) ≤ 300 * 1
    simp only [List.length_cons, List.length_nil] at h1
    omega
  | .nil, f => by
    have h1 := sl_tup [.str "none"]
    have h2 := word_len .nil
    have e : sumS [.str "none"] = shL (.str (wordT .nil)) + 0 := rfl
    rw [e] at h1
    show shL (.tuple [.str "none"]) ≤ 300 * 1
    simp only [List.length_cons, List.length_nil] at h1
    omega
  | .dbl u a b, f => by
    have h1 := sl_tup [.str (if u then "below" else "beside"), eT a, eT b]
    have h2 := word_len (.dbl u a b)
    have h3 := eT_len f.1
    have h4 := eT_len f.2
    have e : sumS [.str (if u then "below" else "beside"), eT a, eT b] = shL (.str (wordT (.dbl u a b))) + (shL (eT a) + (shL (eT b) + 0)) := rfl
    rw [e] at h1
    show shL (.tuple [.str (if u then "below" else "beside"), eT a, eT b]) ≤ 300 * (1 + words a + words b)
    simp only [List.length_cons, List.length_nil] at h1
    omega
  | .one o a, f => by
    have h1 := sl_tup (.str (opS o) :: eT a :: opA o)
    have h2 := word_len (.one o a)
    have h3 := eT_len f.2
    obtain ⟨h4, h5⟩ := opA_len f.1
    have e : sumS (.str (opS o) :: eT a :: opA o) = shL (.str (wordT (.one o a))) + (shL (eT a) + sumS (opA o)) := rfl
    rw [e] at h1
    show shL (.tuple (.str (opS o) :: eT a :: opA o)) ≤ 300 * (1 + words a)
    simp only [List.length_cons] at h1
    omega
theorem eF_len {F : Fld} (h : WF F) : shL (eF F) ≤ 3000 := by
  have h45 := ties_45 h
  have hn := h.n
  have hs := h.s
  have a1 := sl_tup [nt F.n, .tuple ((tiesL F.n F.lt).map npr), .tuple (F.s.map ipr)]
  have a2 := sl_tup ((tiesL F.n F.lt).map npr)
  have a3 := sl_tup (F.s.map ipr)
  have a4 : sumS ((tiesL F.n F.lt).map npr) ≤ (tiesL F.n F.lt).length * 30 := sumS_map fun x hx => by
    obtain ⟨h1, h2, _⟩ := mem_ties.mp hx
    have b1 := sl_tup [nt x.1, nt x.2]
    have b2 := sl_nat (i := x.1) (by omega)
    have b3 := sl_nat (i := x.2) (by omega)
    have e : sumS [nt x.1, nt x.2] = shL (nt x.1) + (shL (nt x.2) + 0) := rfl
    rw [e] at b1
    simp only [List.length_cons, List.length_nil] at b1
    show shL (.tuple [nt x.1, nt x.2]) ≤ 30
    omega
  have a5 : sumS (F.s.map ipr) ≤ F.s.length * 30 := sumS_map fun x hx => by
    have hx := okSeen_bd (h.ok x hx)
    have b1 := sl_tup [.int x.1, .int x.2]
    have b2 := sl_int (i := x.1) (by omega)
    have b3 := sl_int (i := x.2) (by omega)
    have e : sumS [.int x.1, .int x.2] = shL (.int x.1) + (shL (.int x.2) + 0) := rfl
    rw [e] at b1
    simp only [List.length_cons, List.length_nil] at b1
    show shL (.tuple [.int x.1, .int x.2]) ≤ 30
    omega
  have a6 := sl_nat (i := F.n) (by omega)
  have e : sumS [nt F.n, .tuple ((tiesL F.n F.lt).map npr), .tuple (F.s.map ipr)] = shL (nt F.n) + (shL (.tuple ((tiesL F.n F.lt).map npr)) + (shL (.tuple (F.s.map ipr)) + 0)) := rfl
  rw [e] at a1
  rw [List.length_map] at a2 a3
  simp only [List.length_cons, List.length_nil] at a1
  show shL (.tuple [nt F.n, .tuple ((tiesL F.n F.lt).map npr), .tuple (F.s.map ipr)]) ≤ 3000
  omega
/-! ### showable -/
theorem sh_int {i : Int} (h : i.natAbs < 10 ^ 9) : (PyData.int i).showable = true := by
  simp only [PyData.showable]
  refine decide_eq_true ?_
  by_cases z : i.natAbs = 0
  · rw [z]
    decide
  · exact Nat.lt_trans ((Nat.log2_lt z).mpr (Nat.lt_of_lt_of_le h (show 10 ^ 9 ≤ 2 ^ 30 by decide))) (by decide)
theorem sh_all : ∀ {xs : List PyData}, (∀ x ∈ xs, x.showable = true) → PyData.showableAll xs = true
  | [], _ => by simp only [PyData.showableAll]
  | x :: xs, h => by
    simp only [PyData.showableAll]
    rw [h x List.mem_cons_self, sh_all fun y hy => h y (List.mem_cons_of_mem _ hy)]
    rfl
theorem sh_tup {xs : List PyData} (h : ∀ x ∈ xs, x.showable = true) : (PyData.tuple xs).showable = true := by
  simp only [PyData.showable]
  exact sh_all h
theorem sh_lst {xs : List PyData} (h : ∀ x ∈ xs, x.showable = true) : (PyData.list xs).showable = true := by
  simp only [PyData.showable]
  exact sh_all h
theorem sh_str (x : Str) : (PyData.str x).showable = true := by simp only [PyData.showable]
theorem sh_nat {i : Nat} (h : i ≤ 1000000) : (nt i).showable = true := sh_int (by show (i : Int).natAbs < _; omega)
theorem sh_map {α : Type} {f : α → PyData} {xs : List α} (h : ∀ x ∈ xs, (f x).showable = true) : ∀ y ∈ xs.map f, y.showable = true := fun y hy => by
  obtain ⟨x, hx, rfl⟩ := List.mem_map.mp hy
  exact h x hx
theorem sh_cons {x : PyData} {xs : List PyData} (h : x.showable = true) (k : ∀ y ∈ xs, y.showable = true) : ∀ y ∈ x :: xs, y.showable = true := fun y hy => by
  rcases List.mem_cons.mp hy with rfl | hy
  · exact h
  · exact k y hy
theorem sh_nil : ∀ y ∈ ([] : List PyData), y.showable = true := fun y hy => nomatch hy
theorem sh_opA {o : Op} (h : ownO o) : ∀ y ∈ opA o, y.showable = true := by
  cases o with
  | row k => exact sh_cons (sh_nat (by have := h.2; omega)) sh_nil
  | turned => exact sh_nil
  | moved d => exact sh_cons (sh_int (by obtain ⟨h1, h2⟩ := h; omega)) sh_nil
  | times k => exact sh_cons (sh_nat (by have := h.2; omega)) sh_nil
  | tied i j => exact sh_cons (sh_nat (by have := h.1; omega)) (sh_cons (sh_nat (by have := h.2.1; omega)) sh_nil)
  | only l => exact sh_cons (sh_tup (sh_map fun i hi => sh_nat (by have := h.1 i hi; omega))) sh_nil
theorem sh_eT : ∀ {t : Tm}, form t → (eT t).showable = true
  | .thing w h, f => by
    have f := okSeen_bd f
    simp only [] at f
    exact sh_tup (sh_cons (sh_str _) (sh_cons (sh_int (by omega)) (sh_cons (sh_int (by omega)) sh_nil)))
  | .nil, f => sh_tup (sh_cons (sh_str _) sh_nil)
  | .dbl u a b, f => sh_tup (sh_cons (sh_str _) (sh_cons (sh_eT f.1) (sh_cons (sh_eT f.2) sh_nil)))
  | .one o a, f => sh_tup (sh_cons (sh_str _) (sh_cons (sh_eT f.2) (sh_opA f.1)))
theorem sh_eF {F : Fld} (h : WF F) : (eF F).showable = true := by
  have hn := h.n
  refine sh_tup (sh_cons (sh_nat (by omega)) (sh_cons (sh_tup (sh_map fun x hx => ?_)) (sh_cons (sh_tup (sh_map fun x hx => ?_)) sh_nil)))
  · obtain ⟨h1, h2, _⟩ := mem_ties.mp hx
    exact sh_tup (sh_cons (sh_nat (by omega)) (sh_cons (sh_nat (by omega)) sh_nil))
  · have hx := okSeen_bd (h.ok x hx)
    exact sh_tup (sh_cons (sh_int (by omega)) (sh_cons (sh_int (by omega)) sh_nil))
theorem lay_npr (x : Nat × Nat) : PyData.canLay0 (npr x) = true := by
  rw [lay_tup, lay_cons, lay_cons, lay_nil, lay_int, lay_int]
  rfl
theorem lay_ipr (x : Int × Int) : PyData.canLay0 (ipr x) = true := by
  rw [lay_tup, lay_cons, lay_cons, lay_nil, lay_int, lay_int]
  rfl
theorem lay_eF (F : Fld) : PyData.canLay0 (eF F) = true := by
  unfold eF
  rw [lay_tup, lay_cons, lay_cons, lay_cons, lay_nil, lay_int, lay_tup, lay_tup, lay_map lay_npr, lay_map lay_ipr]
  rfl
theorem dep_eF (F : Fld) : PyData.depth (eF F) ≤ 3 := by
  unfold eF
  rw [dep_tup, dep_cons, dep_cons, dep_cons, dep_nil, dep_int, dep_tup, dep_tup]
  have h1 := dep_map (k := 1) (f := npr) (fun x => by rw [dep_tup, dep_cons, dep_cons, dep_nil, dep_int, dep_int]; decide) (tiesL F.n F.lt)
  have h2 := dep_map (k := 1) (f := ipr) (fun x => by rw [dep_tup, dep_cons, dep_cons, dep_nil, dep_int, dep_int]; decide) F.s
  omega
theorem reprT {we : WE} {ρ : En} {t : Tm} (hf : form t) (hw : words t ≤ 20) (hh : high t ≤ 8) (h : Val we ρ (eT t)) : Val (wCallB rReprD (wCons we wNil)) ρ (.str (eT t).shown) := fun Q q => h _ (by
  have h1 := eT_len hf
  have h2 := dep_eT t
  unfold shL at h1
  exact ⟨⟨sh_eT hf, PyData.hasDict_of_canLay _ (lay_eT t), by omega, by rw [sizeLine_eq]; omega⟩, ⟨_, by rw [eT_eq]; rfl⟩, q⟩)
def toldL (t : Tm) (F : Fld) : List PyData := [eT t, eF F, .tuple ((kids t).map eT), eF F]
theorem kid_ok {t k : Tm} (h : k ∈ kids t) : (form t → form k) ∧ words k < words t ∧ high k < high t := by
  cases t with
  | thing _ _ => nomatch h
  | nil => nomatch h
  | dbl u a b =>
    rcases List.mem_cons.mp h with rfl | h
    · exact ⟨fun z => z.1, by simp only [words]; omega, by simp only [high]; omega⟩
    · rw [List.mem_singleton.mp h]
      exact ⟨fun z => z.2, by simp only [words]; omega, by simp only [high]; omega⟩
  | one o a =>
    rw [List.mem_singleton.mp h]
    exact ⟨fun z => z.2, by simp only [words]; omega, by simp only [high]; omega⟩
theorem kids_len (t : Tm) : (kids t).length ≤ 2 := by cases t <;> simp [kids]
theorem reprL {we : WE} {ρ : En} {t : Tm} {F : Fld} (hg : Good t F) (h : Val we ρ (.list (toldL t F))) : Val (wCallB rReprD (wCons we wNil)) ρ (.str (PyData.list (toldL t F)).shown) := fun Q q => h _ (by
  have hw := hg.words
  have hh := hg.high
  have hwf := hg.wf
  have hk := kids_len t
  have a1 := eT_len hg.form
  have a2 := eF_len hwf
  have a3 := sl_tup ((kids t).map eT)
  have a4 : sumS ((kids t).map eT) ≤ (kids t).length * 6000 := sumS_map fun k hk => by
    obtain ⟨k1, k2, _⟩ := kid_ok hk
    have := eT_len (k1 hg.form)
    omega
  have a5 := sl_lst (toldL t F)
  have e : sumS (toldL t F) = shL (eT t) + (shL (eF F) + (shL (.tuple ((kids t).map eT)) + (shL (eF F) + 0))) := rfl
  rw [e] at a5
  rw [List.length_map] at a3
  have e2 : (toldL t F).length = 4 := rfl
  rw [e2] at a5
  have b1 := dep_eT t
  have b2 := dep_eF F
  have b3 : PyData.depthAll ((kids t).map eT) ≤ 9 := dep_all fun x hx => by
    obtain ⟨k, hk, rfl⟩ := List.mem_map.mp hx
    have := dep_eT k
    have := (kid_ok hk).2.2
    omega
  refine ⟨⟨sh_lst (sh_cons (sh_eT hg.form) (sh_cons (sh_eF hwf) (sh_cons (sh_tup (sh_map fun k hk => sh_eT ((kid_ok hk).1 hg.form))) (sh_cons (sh_eF hwf) sh_nil)))), PyData.hasDict_of_canLay _ ?_, ?_, ?_⟩, ⟨_, rfl⟩, q⟩
  · unfold toldL
    rw [lay_lst, lay_cons, lay_cons, lay_cons, lay_cons, lay_nil, lay_eT, lay_eF, lay_tup, lay_map lay_eT]
    rfl
  · unfold toldL
    rw [dep_lst, dep_cons, dep_cons, dep_cons, dep_cons, dep_nil, dep_tup]
    omega
  · unfold shL at a5 a1 a2 a3
    rw [sizeLine_eq]
    omega)
theorem lst4 {wa wb wc wd : WE} {ρ : En} {a b c d : PyData} (ha : Val wa ρ a) (hb : Val wb ρ b) (hc : Val wc ρ c) (hd : Val wd ρ d) : Val (wFz (wLst (wCons wa (wCons wb (wCons wc (wCons wd wNil)))))) ρ (.list [a, b, c, d]) := val_fz (lst_v (cons_v ha (cons_v hb (cons_v hc (cons_v hd nil_v)))) (by show 4 ≤ 1000; decide))
theorem neS_b {wa wb : WE} {ρ : En} {a b : Str} {c : Bool} (ha : Val wa ρ (.str a)) (hb : Val wb ρ (.str b)) (h : (!decide (a = b)) = c) : Tst (wTst (wOp rNeS wa wb)) ρ c := fun Q q => ha _ (hb _ (by rw [← h] at q; exact q))
theorem eqS_v {wa wb : WE} {ρ : En} {a b : Str} (ha : Val wa ρ (.str a)) (hb : Val wb ρ (.str b)) : Val (wOp rEqS wa wb) ρ (.bool (decide (a = b))) := fun Q q => ha _ (hb _ q)
theorem rd__law_term_right : ∀ bs Q, sp__law_term_right bs Q → w__law_term_right { nx := fun _ => Q .none, rt := Q } (bs ++ List.replicate (N__law_term_right.length - bs.length) .no) := by
  rintro bs Q ⟨t, F, hg, rfl, q⟩
  have hw := hg.words
  have hh := hg.high
  refine seq_set (reprT hg.form hw hh (var_v rfl)) ?_
  refine seq_for (rng_v (n := 2) c_v (by omega)) ?_
  refine for_pre (all := List.range 2) (fun (i : Nat) => PyData.int (i : Int)) (fun pre ρ => ∃ b3 b4, ρ = [.val (eT t), .val (eF F), .val (.str (eT t).shown), b3, b4]) ?_ ?_ (pre := []) rfl ⟨.no, .no, rfl⟩
  · rintro pre i post ρ E1 he ⟨b3, b4, rfl⟩ hrt hnx -
    refine g1_v ?_
    let e1 : En := [.val (eT t), .val (eF F), .val (.str (eT t).shown), .val (nt i), b4]
    have hfo : Val (wCall sp_field_of 1 (wB (wVar 0) wB0)) e1 (eF F) := fun Q q => call1_v (var_v rfl) ⟨t, F, hg, rfl, q⟩
    have told : Val (wFz (wLst (wCons (wCall sp_need_term 1 (wB (wVar 0) wB0)) (wCons (wCall sp_field_of 1 (wB (wVar 0) wB0)) (wCons (wCall sp_kids_of 1 (wB (wVar 0) wB0)) (wCons (wCall sp_need_field 1 (wB (wCall sp_field_of 1 (wB (wVar 0) wB0)) wB0)) wNil)))))) e1 (.list (toldL t F)) :=
      lst4 (fun Q q => call1_v (var_v rfl) ⟨t, F, hg, rfl, q⟩) hfo (fun Q q => call1_v (var_v rfl) ⟨t, F, hg, rfl, q⟩) (fun Q q => call1_v hfo ⟨F, hg.wf, rfl, q⟩)
    show wSeq _ _ E1 e1
    refine seq_set told ?_
    have t2 : Val (wFz (wLst (wCons (wVar 0) (wCons (wVar 1) (wCons (wCall sp__law_kids 1 (wB (wVar 0) wB0)) (wCons (wVar 1) wNil)))))) (e1.set 4 (.val (.list (toldL t F)))) (.list (toldL t F)) :=
      lst4 (var_v rfl) (var_v rfl) (fun Q q => call1_v (var_v rfl) ⟨t, rfl, q⟩) (var_v rfl)
    refine if_f (neS_b (reprL hg (var_v (i := 4) rfl)) (reprL hg t2) (by rw [decide_eq_true rfl]; rfl)) (hnx _ ⟨.val (nt i), .val (.list (toldL t F)), rfl⟩)
  · rintro ρ ⟨b3, b4, rfl⟩
    show wRet (wOp rEqS (wCallB rReprD (wCons (wVar 0) wNil)) (wVar 2)) { nx := fun _ => Q .none, rt := Q } [.val (eT t), .val (eF F), .val (.str (eT t).shown), b3, b4]
    refine ret_v (eqS_v (reprT hg.form hw hh (var_v rfl)) (var_v rfl)) ?_
    rw [decide_eq_true rfl]
    exact q
end Qp
set_option maxHeartbeats 4000000
namespace Qp
open PySem PySem.Spec PyProof.Rows L2 Qd
/-! ### values at a cost -/
def NVal (w : WEn) (ρ : En) (c : Nat) (S : PyData → Prop) : Prop := ∀ (n : Int) (P : Int → PyData → Prop), n + (c : Int) ≤ 2 ^ 60 → (∀ m d, n ≤ m → m ≤ n + (c : Int) → S d → P m d) → w n ρ P
def NVP (w : WPn) (ρ : En) (c : Nat) (S : List PyData → Prop) : Prop := ∀ (n : Int) (P : Int → List PyData → Prop), n + (c : Int) ≤ 2 ^ 60 → (∀ m d, n ≤ m → m ≤ n + (c : Int) → S d → P m d) → w n ρ P
def NT (t : WTn) (ρ : En) (c : Nat) : Prop := ∀ (n : Int) (P : Int → Bool → Prop), n + (c : Int) ≤ 2 ^ 60 → (∀ m b, n ≤ m → m ≤ n + (c : Int) → P m b) → t n ρ P
abbrev nDraw (many : Int) : WEn := nCall sp__law_draw 2 (nBst 0 (nB (upE (wC (.int many))) nB0))
def IntIn (a b : Int) : PyData → Prop := fun d => ∃ r : Int, d = .int r ∧ a ≤ r ∧ r < b
theorem nv_up {w : WE} {ρ : En} {d : PyData} (h : Val w ρ d) : NVal (upE w) ρ 0 (fun x => x = d) := fun n P _ k => h _ (k n d (by omega) (by omega) rfl)
theorem nv_draw {many : Int} {ρ : En} (h : ρ.getD 0 .no = .st) (h0 : 0 < many) (h1 : many < 1000) : NVal (nDraw many) ρ 1 (IntIn 0 many) := fun n P hb k => by
  show (match ρ.getD 0 .no with
    | .st => nB (upE (wC (.int many))) nB0 n ρ fun k bs => (Bd.st :: bs).length = 2 ∧ sp__law_draw k (Bd.st :: bs) P
    | _ => False)
  rw [h]
  exact ⟨rfl, many, rfl, h0, h1, by omega, fun r r0 r1 => k _ _ (by omega) (by omega) ⟨r, rfl, r0, r1⟩⟩
theorem nv_weak {w : WEn} {ρ : En} {c c' : Nat} {S T : PyData → Prop} (h : NVal w ρ c S) (hc : c ≤ c') (k : ∀ d, S d → T d) : NVal w ρ c' T := fun n P hb q => h n P (by omega) fun m d h1 h2 h3 => q m d h1 (by omega) (k d h3)
theorem nvp_weak {w : WPn} {ρ : En} {c c' : Nat} {S T : List PyData → Prop} (h : NVP w ρ c S) (hc : c ≤ c') (k : ∀ d, S d → T d) : NVP w ρ c' T := fun n P hb q => h n P (by omega) fun m d h1 h2 h3 => q m d h1 (by omega) (k d h3)
theorem nv_nil {ρ : En} : NVP nNil ρ 0 (fun ds => ds = []) := fun n P _ k => k n [] (by omega) (by omega) rfl
theorem nv_cons {we : WEn} {w : WPn} {ρ : En} {c1 c2 : Nat} {S : PyData → Prop} {T : List PyData → Prop} (h : NVal we ρ c1 S) (g : NVP w ρ c2 T) : NVP (nCons we w) ρ (c1 + c2) (fun ds => ∃ x xs, ds = x :: xs ∧ S x ∧ T xs) := fun n P hb k =>
  h n _ (by omega) fun m d h1 h2 h3 => g m _ (by omega) fun m' ds h4 h5 h6 => k m' _ (by omega) (by omega) ⟨d, ds, rfl, h3, h6⟩
theorem nv_tup {w : WPn} {ρ : En} {c : Nat} {S : List PyData → Prop} (h : NVP w ρ c S) (hl : ∀ ds, S ds → ds.length ≤ 1000) : NVal (nTup w) ρ c (fun d => ∃ ds, d = .tuple ds ∧ S ds) := fun n P hb k =>
  h n _ hb fun m ds h1 h2 h3 => ⟨by have := hl ds h3; rw [sizeLine_eq]; omega, k m _ h1 h2 ⟨ds, rfl, h3⟩⟩
theorem nv_lst {w : WPn} {ρ : En} {c : Nat} {S : List PyData → Prop} (h : NVP w ρ c S) (hl : ∀ ds, S ds → ds.length ≤ 1000) : NVal (nLst w) ρ c (fun d => ∃ ds, d = .list ds ∧ S ds) := fun n P hb k =>
  h n _ hb fun m ds h1 h2 h3 => ⟨by have := hl ds h3; rw [sizeLine_eq]; omega, k m _ h1 h2 ⟨ds, rfl, h3⟩⟩
theorem nv_int {i : Int} {ρ : En} : NVal (upE (wC (.int i))) ρ 0 (IntIn i (i + 1)) := fun n P _ k => k n _ (by omega) (by omega) ⟨i, rfl, by omega, by omega⟩
theorem nv_add {wa wb : WEn} {ρ : En} {c1 c2 : Nat} {a b a' b' : Int} (h : NVal wa ρ c1 (IntIn a b)) (g : NVal wb ρ c2 (IntIn a' b')) : NVal (nOp rAddI wa wb) ρ (c1 + c2) (IntIn (a + a') (b + b' - 1)) := fun n P hb k =>
  h n _ (by omega) fun m d h1 h2 h3 => g m _ (by omega) fun m' e h4 h5 h6 => by
    obtain ⟨r, rfl, r1, r2⟩ := h3
    obtain ⟨s, rfl, s1, s2⟩ := h6
    exact ⟨trivial, k m' _ (by omega) (by omega) ⟨r + s, rfl, by omega, by omega⟩⟩
theorem nv_sub {wa wb : WEn} {ρ : En} {c1 c2 : Nat} {a b i : Int} (h : NVal wa ρ c1 (IntIn a b)) (g : NVal wb ρ c2 (IntIn i (i + 1))) : NVal (nOp rSubI wa wb) ρ (c1 + c2) (IntIn (a - i) (b - i)) := fun n P hb k =>
  h n _ (by omega) fun m d h1 h2 h3 => g m _ (by omega) fun m' e h4 h5 h6 => by
    obtain ⟨r, rfl, r1, r2⟩ := h3
    obtain ⟨s, rfl, s1, s2⟩ := h6
    exact ⟨trivial, k m' _ (by omega) (by omega) ⟨r - s, rfl, by omega, by omega⟩⟩
theorem nt_gt {wa : WEn} {ρ : En} {c : Nat} {a b i : Int} (h : NVal wa ρ c (IntIn a b)) : NT (nTst (nOp rGtI wa (upE (wC (.int i))))) ρ c := fun n P hb k =>
  h n _ hb fun m d h1 h2 h3 => by
    obtain ⟨r, rfl, r1, r2⟩ := h3
    exact ⟨trivial, k m _ h1 h2⟩
theorem nt_eq {wa : WEn} {ρ : En} {c : Nat} {a b i : Int} (h : NVal wa ρ c (IntIn a b)) : NT (nTst (nOp rEqI wa (upE (wC (.int i))))) ρ c := fun n P hb k =>
  h n _ hb fun m d h1 h2 h3 => by
    obtain ⟨r, rfl, r1, r2⟩ := h3
    exact ⟨trivial, k m _ h1 h2⟩
theorem nv_if {t : WTn} {wa wb : WEn} {ρ : En} {c1 c2 : Nat} {S : PyData → Prop} (h : NT t ρ c1) (ha : NVal wa ρ c2 S) (hb : NVal wb ρ c2 S) : NVal (nIf t wa wb) ρ (c1 + c2) S := fun n P hn k =>
  h n _ (by omega) fun m b h1 h2 => by
    cases b
    · rw [if_neg (by simp)]
      exact hb m P (by omega) fun m' d h3 h4 h5 => k m' d (by omega) (by omega) h5
    · rw [if_pos rfl]
      exact ha m P (by omega) fun m' d h3 h4 h5 => k m' d (by omega) (by omega) h5
/-! ### the terms drawn -/
def cost : Nat → Nat
  | 0 => 5
  | d + 1 => 20 + 2 * cost d
def cap : Nat → Int
  | 0 => 4
  | d + 1 => 5 * cap d
theorem cap_pos : ∀ d, 4 ≤ cap d
  | 0 => by decide
  | d + 1 => by
    have := cap_pos d
    show 4 ≤ 5 * cap d
    omega
structure TermOk (d : Nat) (t : Tm) (F : Fld) : Prop where
  den : den t = some F
  form : form t
  words : words t + 1 ≤ 2 ^ (d + 1)
  high : high t ≤ d + 1
  wt : ∀ x ∈ F.s, x.2 ≤ cap d
theorem TermOk.up {d : Nat} {t : Tm} {F : Fld} (h : TermOk d t F) : TermOk (d + 1) t F := by
  have h1 := h.words
  have h2 := h.high
  refine ⟨h.den, h.form, by rw [Nat.pow_succ]; omega, by omega, fun x hx => ?_⟩
  have := h.wt x hx
  have := cap_pos d
  show x.2 ≤ 5 * cap d
  omega
def spT (D : Nat) : SpN := fun n bs P => ∃ d : Nat, d ≤ D ∧ bs = [.st, .val (nt d)] ∧ n + (cost d : Int) ≤ 2 ^ 60 ∧ ∀ t F, TermOk d t F → ∀ m, n ≤ m → m ≤ n + (cost d : Int) → P m (.tuple [eT t, eF F])
theorem row_cap {A : Fld} {c : Int} (h : WF A) (hc : ∀ x ∈ A.s, x.2 ≤ c) : ∀ {k : Nat} {F0 F : Fld}, WF F0 → (∀ x ∈ F0.s, x.2 ≤ c) → rowN A k (some F0) = some F → ∀ x ∈ F.s, x.2 ≤ c
  | 0, F0, F, _, h0, e => by cases e; exact h0
  | k + 1, F0, F, w0, h0, e => by
    have e : rowN A k (two F0 A true) = some F := e
    cases z : two F0 A true with
    | none => rw [z, row_none] at e; cases e
    | some G =>
      rw [z] at e
      obtain ⟨rfl, hG⟩ := two_laid w0 h z
      refine row_cap h hc hG (fun x hx => ?_) e
      rcases List.mem_append.mp hx with hx | hx
      · exact h0 x hx
      · exact hc x hx
theorem op_cap {A F : Fld} {o : Op} {c : Int} (h : WF A) (hp : 0 ≤ c) (hc : ∀ x ∈ A.s, x.2 ≤ c) (ho : ∀ k, o = .times k → k ≤ 5) (e : denO A o = some F) : ∀ x ∈ F.s, x.2 ≤ 5 * c := by
  have up : ∀ {s : List (Int × Int)}, (∀ x ∈ s, x.2 ≤ c) → ∀ x ∈ s, x.2 ≤ 5 * c := fun g x hx => by have := g x hx; omega
  cases o with
  | row k => exact up (row_cap h hc h hc e)
  | turned =>
    rw [turned_eq h e]
    refine up fun x hx => ?_
    obtain ⟨y, hy, rfl⟩ := List.mem_map.mp hx
    exact hc y hy
  | moved d =>
    rw [moved_eq h e]
    refine up fun x hx => ?_
    obtain ⟨y, hy, rfl⟩ := List.mem_map.mp hx
    exact hc y hy
  | times k =>
    rw [times_eq h e]
    intro x hx
    obtain ⟨y, hy, rfl⟩ := List.mem_map.mp hx
    have h1 := hc y hy
    have h2 := okSeen_bd (h.ok y hy)
    have h3 := ho k rfl
    show y.2 * (k : Int) ≤ 5 * c
    have h4 : y.2 * (k : Int) ≤ y.2 * 5 := Int.mul_le_mul_of_nonneg_left (by omega) (by omega)
    omega
  | tied i j =>
    obtain ⟨_, _, e⟩ := tied_eq h e
    rw [e]
    exact up hc
  | only l =>
    obtain ⟨hl, e⟩ := only_eq h e
    rw [e]
    refine up fun x hx => ?_
    obtain ⟨i, hi, rfl⟩ := List.mem_map.mp hx
    have hi2 : i < A.s.length := by rw [h.s]; exact hl i hi
    rw [List.getD_eq_getElem?_getD, List.getElem?_eq_getElem hi2]
    exact hc _ (List.getElem_mem hi2)
/-- a new term over one of the depth d -/
structure NewOk (d : Nat) (t : Tm) (Fs : List Fld) : Prop where
  own : own1 t
  den : (kids t).map den = Fs.map some
  wf : ∀ A ∈ Fs, WF A
  ok : ∀ F, Qp.den t = some F → TermOk (d + 1) t F
theorem new_one {d : Nat} {a : Tm} {A : Fld} {o : Op} (h : TermOk d a A) (ho : ownO o) (hk : ∀ k, o = .times k → k ≤ 5) : NewOk d (.one o a) [A] := by
  have wa := den_wf h.form h.den
  have h1 := h.words
  have h2 := h.high
  refine ⟨ho, ?_, fun B hB => (by rw [List.mem_singleton.mp hB]; exact wa), fun F e => ?_⟩
  · show [den a] = [some A]
    rw [h.den]
  · have e2 : ((Qp.den a).bind fun A => denO A o) = some F := e
    rw [h.den] at e2
    have cp := cap_pos d
    refine ⟨e, ⟨ho, h.form⟩, ?_, by simp only [high]; omega, op_cap wa (by omega) h.wt hk e2⟩
    simp only [words]
    rw [Nat.pow_succ]
    omega
theorem new_dbl {d : Nat} {a b : Tm} {A B : Fld} {u : Bool} (h : TermOk d a A) (g : TermOk d b B) : NewOk d (.dbl u a b) [A, B] := by
  have wa := den_wf h.form h.den
  have wb := den_wf g.form g.den
  have h1 := h.words
  have h2 := h.high
  have h3 := g.words
  have h4 := g.high
  refine ⟨trivial, ?_, fun C hC => ?_, fun F e => ?_⟩
  · show [den a, den b] = [some A, some B]
    rw [h.den, g.den]
  · rcases List.mem_cons.mp hC with rfl | hC
    · exact wa
    · rw [List.mem_singleton.mp hC]
      exact wb
  · have e2 : ((Qp.den a).bind fun A => (Qp.den b).bind fun B => two A B u) = some F := e
    rw [h.den, g.den] at e2
    obtain ⟨rfl, _⟩ := two_laid wa wb e2
    have cp := cap_pos d
    refine ⟨e, ⟨h.form, g.form⟩, ?_, by simp only [high]; omega, fun x hx => ?_⟩
    · simp only [words]
      rw [Nat.pow_succ]
      omega
    · show x.2 ≤ 5 * cap d
      rcases List.mem_append.mp hx with hx | hx
      · have := h.wt x hx
        omega
      · have := g.wt x hx
        omega
theorem leaf_ok {w h : Int} (h1 : -9 ≤ w) (h2 : w < 10) (h3 : 1 ≤ h) (h4 : h < 5) (d : Nat) : TermOk d (.thing w h) ⟨1, fun _ _ => false, [(w, h)]⟩ := by
  have cp := cap_pos d
  have p1 : 1 ≤ 2 ^ d := Nat.one_le_two_pow
  refine ⟨rfl, ?_, by rw [Nat.pow_succ]; show 1 + 1 ≤ 2 ^ d * 2; omega, by show 1 ≤ d + 1; omega, fun x hx => ?_⟩
  · show okSeen (w, h) = true
    unfold okSeen
    simp only [Bool.and_eq_true, decide_eq_true_eq]
    omega
  · rw [List.mem_singleton.mp hx]
    show h ≤ cap d
    omega
theorem nil_ok (d : Nat) : TermOk d .nil ⟨0, fun _ _ => false, []⟩ := by
  have p1 : 1 ≤ 2 ^ d := Nat.one_le_two_pow
  exact ⟨rfl, trivial, by rw [Nat.pow_succ]; show 1 + 1 ≤ 2 ^ d * 2; omega, by show 1 ≤ d + 1; omega, fun x hx => nomatch hx⟩
/-! ### the draws of spots -/
theorem n_only {Q : Int → List PyData → Prop} {x1 x2 x3 x4 x5 x6 x7 x8 x9 x10 x11 x12 : Bd} : ∀ {xs : List Nat} {acc : List PyData} {n : Int}, acc.length + xs.length ≤ 1000 → n + (xs.length : Int) ≤ 2 ^ 60 → (∀ (l : List Nat) (m : Int), l.Sublist xs → n ≤ m → m ≤ n + (xs.length : Int) → Q m (acc ++ l.map nt)) →
    nLcL (wgName 12) (nTst (nOp rGtI (nDraw 3) (upE (wC (.int 0))))) (wVar 12) (xs.map nt) acc n [.st, x1, x2, x3, x4, x5, x6, x7, x8, x9, x10, x11, x12] Q
  | [], acc, n, _, _, q => by
    have := q [] n (List.Sublist.slnil) (by omega) (by show n ≤ n + 0; omega)
    rw [List.map_nil, List.append_nil] at this
    exact this
  | x :: xs, acc, n, hl, hn, q => by
    rw [List.length_cons] at hl hn q
    rw [List.map_cons]
    refine nt_gt (nv_draw (ρ := [.st, x1, x2, x3, x4, x5, x6, x7, x8, x9, x10, x11, .val (nt x)]) rfl (by decide) (by decide)) n _ (by omega) fun m b h1 h2 => ?_
    cases b with
    | false =>
      rw [if_neg (by simp)]
      exact n_only (by omega) (by omega) fun l m' hs h3 h4 => q l m' (hs.cons _) (by omega) (by omega)
    | true =>
      rw [if_pos rfl]
      refine ⟨by rw [sizeLine_eq]; omega, n_only (by rw [List.length_append, List.length_singleton]; omega) (by omega) fun l m' hs h3 h4 => ?_⟩
      have := q (x :: l) m' (hs.cons₂ _) (by omega) (by omega)
      rw [List.append_assoc]
      exact this
end Qp
set_option maxHeartbeats 4000000
namespace Qp
open PySem PySem.Spec PyProof.Rows L2 Qd
abbrev leafE : WEn := nIf (nTst (nOp rGtI (nDraw 9) (upE (wC (.int 0))))) (nTup (nCons (upE (wC (.str "thing"))) (nCons (nOp rSubI (nDraw 19) (upE (wC (.int 9)))) (nCons (nOp rAddI (upE (wC (.int 1))) (nDraw 4)) nNil)))) (upE (wTup (wCons (wC (.str "none")) wNil)))
def LeafOk (t : Tm) (F : Fld) : Prop := (∀ d, TermOk d t F) ∧ own1 t ∧ kids t = []
theorem leaf_v {ρ : En} (h : ρ.getD 0 .no = .st) : NVal leafE ρ 3 (fun d => ∃ t F, d = eT t ∧ LeafOk t F) := by
  refine nv_if (c1 := 1) (c2 := 2) (nt_gt (nv_draw h (by decide) (by decide))) ?_ ?_
  · have := nv_tup (nv_cons (nv_up (ρ := ρ) (c_v (d := .str "thing"))) (nv_cons (nv_sub (i := 9) (nv_draw (many := 19) h (by decide) (by decide)) nv_int) (nv_cons (nv_add (nv_int (i := 1)) (nv_draw (many := 4) h (by decide) (by decide))) nv_nil))) (fun ds hd => by
      obtain ⟨_, _, rfl, _, _, _, rfl, _, _, _, rfl, _, rfl⟩ := hd
      show 3 ≤ 1000
      decide)
    refine nv_weak this (by decide) fun d hd => ?_
    obtain ⟨_, rfl, _, _, rfl, rfl, _, _, rfl, ⟨w, rfl, w1, w2⟩, _, _, rfl, ⟨h', rfl, h1, h2⟩, rfl⟩ := hd
    exact ⟨.thing w h', _, rfl, fun d => leaf_ok (by omega) (by omega) (by omega) (by omega) d, (leaf_ok (w := w) (h := h') (by omega) (by omega) (by omega) (by omega) 0).form, rfl⟩
  · refine nv_weak (nv_up (ρ := ρ) (d := .tuple [.str "none"]) (tup_v (cons_v c_v nil_v) (by show 1 ≤ 1000; decide))) (by decide) fun d hd => ?_
    exact ⟨.nil, _, hd, nil_ok, trivial, rfl⟩
abbrev leafW : WSn := nSeq (nSet 2 leafE) (upS (wRet (wTup (wCons (wVar 2) (wCons (wCall sp__law_put 2 (wB (wVar 2) (wB (wFz (wLst wNil)) wB0))) wNil)))))
theorem leaf_w {E : EndN} {n : Int} {x1 x2 x3 x4 x5 x6 x7 x8 x9 x10 x11 x12 : Bd} (hb : n + 3 ≤ 2 ^ 60) (q : ∀ t F, (∀ d, TermOk d t F) → ∀ m, n ≤ m → m ≤ n + 3 → E.rt m (.tuple [eT t, eF F])) : leafW E n [.st, x1, x2, x3, x4, x5, x6, x7, x8, x9, x10, x11, x12] := by
  refine leaf_v (ρ := [.st, x1, x2, x3, x4, x5, x6, x7, x8, x9, x10, x11, x12]) rfl n _ hb fun m d h1 h2 hd => ?_
  obtain ⟨t, F, rfl, hok, how, hki⟩ := hd
  have hden : Val (wCall sp__law_put 2 (wB (wVar 2) (wB (wFz (wLst wNil)) wB0))) [.st, x1, .val (eT t), x3, x4, x5, x6, x7, x8, x9, x10, x11, x12] (eF F) := fun Q q => call2_v (var_v rfl) nil_l ⟨t, [], how, (by rw [hki]; rfl), fun A hA => (nomatch hA), rfl, (by rw [(hok 0).den]; exact q)⟩
  exact pair_v (ρ := [.st, x1, .val (eT t), x3, x4, x5, x6, x7, x8, x9, x10, x11, x12]) (var_v (i := 2) rfl) hden _ (q t F hok m h1 h2)
/-- the end of _law_term -/
abbrev endW : WSn := upS (wSeq (wSet 11 (wCall sp__law_put 2 (wB (wVar 9) (wB (wVar 6) wB0)))) (wRet (wIf (wTst (wOp rNotN (wVar 11) (wC .none))) (wTup (wCons (wVar 9) (wCons (wVar 11) wNil))) (wTup (wCons (wVar 3) (wCons (wVar 4) wNil))))))
theorem end_w {E : EndN} {m : Int} {d : Nat} {a t : Tm} {A : Fld} {Fs : List Fld} {x1 x2 x5 x7 x8 x10 x11 x12 : Bd} (ha : TermOk d a A) (ht : NewOk d t Fs) (q : ∀ t F, TermOk (d + 1) t F → E.rt m (.tuple [eT t, eF F])) :
    endW E m [.st, x1, x2, .val (eT a), .val (eF A), x5, .val (.list (Fs.map eF)), x7, x8, .val (eT t), x10, x11, x12] := by
  refine seq_set (ρ := [.st, x1, x2, .val (eT a), .val (eF A), x5, .val (.list (Fs.map eF)), x7, x8, .val (eT t), x10, x11, x12]) (d := eFo (den t)) (fun Q q => call2_v (var_v rfl) (var_v rfl) ⟨t, Fs, ht.own, ht.den, ht.wf, rfl, q⟩) ?_
  cases c : den t with
  | none =>
    refine ret_c (if_e (b := false) (fun Q q => q) (fun z => (by cases z)) fun _ => ?_)
    exact pair_v (ρ := [.st, x1, x2, .val (eT a), .val (eF A), x5, .val (.list (Fs.map eF)), x7, x8, .val (eT t), x10, .val .none, x12]) (var_v rfl) (var_v rfl) _ (q a A ha.up)
  | some F =>
    refine ret_c (if_e (b := true) (fun Q q => q) (fun _ => ?_) fun z => (by cases z))
    exact pair_v (ρ := [.st, x1, x2, .val (eT a), .val (eF A), x5, .val (.list (Fs.map eF)), x7, x8, .val (eT t), x10, .val (eF F), x12]) (var_v rfl) (var_v rfl) _ (q t F (ht.ok F c))
/-! ### the branches -/
section
variable {ρ : En} {a : Tm}
theorem b_row (h : ρ.getD 0 .no = .st) (ha : ρ.getD 3 .no = .val (eT a)) : NVal (nTup (nCons (upE (wC (.str "row"))) (nCons (upE (wVar 3)) (nCons (nOp rAddI (upE (wC (.int 1))) (nDraw 3)) nNil)))) ρ 1 (fun d => ∃ o, d = eT (.one o a) ∧ ownO o ∧ ∀ k, o = .times k → k ≤ 5) := by
  have := nv_tup (nv_cons (nv_up (ρ := ρ) (c_v (d := .str "row"))) (nv_cons (nv_up (var_v ha)) (nv_cons (nv_add (nv_int (i := 1)) (nv_draw (many := 3) h (by decide) (by decide))) nv_nil))) (fun ds hd => by
    obtain ⟨_, _, rfl, _, _, _, rfl, _, _, _, rfl, _, rfl⟩ := hd
    show 3 ≤ 1000
    decide)
  refine nv_weak this (by decide) fun d hd => ?_
  obtain ⟨_, rfl, _, _, rfl, rfl, _, _, rfl, rfl, _, _, rfl, ⟨r, rfl, r1, r2⟩, rfl⟩ := hd
  refine ⟨.row r.toNat, ?_, ⟨by omega, by omega⟩, fun k e => nomatch e⟩
  show PyData.tuple [.str "row", eT a, .int r] = .tuple [.str "row", eT a, .int (r.toNat : Int)]
  rw [Int.toNat_of_nonneg (by omega)]
theorem b_times (h : ρ.getD 0 .no = .st) (ha : ρ.getD 3 .no = .val (eT a)) : NVal (nTup (nCons (upE (wC (.str "times"))) (nCons (upE (wVar 3)) (nCons (nOp rAddI (upE (wC (.int 1))) (nDraw 5)) nNil)))) ρ 1 (fun d => ∃ o, d = eT (.one o a) ∧ ownO o ∧ ∀ k, o = .times k → k ≤ 5) := by
  have := nv_tup (nv_cons (nv_up (ρ := ρ) (c_v (d := .str "times"))) (nv_cons (nv_up (var_v ha)) (nv_cons (nv_add (nv_int (i := 1)) (nv_draw (many := 5) h (by decide) (by decide))) nv_nil))) (fun ds hd => by
    obtain ⟨_, _, rfl, _, _, _, rfl, _, _, _, rfl, _, rfl⟩ := hd
    show 3 ≤ 1000
    decide)
  refine nv_weak this (by decide) fun d hd => ?_
  obtain ⟨_, rfl, _, _, rfl, rfl, _, _, rfl, rfl, _, _, rfl, ⟨r, rfl, r1, r2⟩, rfl⟩ := hd
  refine ⟨.times r.toNat, ?_, ⟨by omega, by omega⟩, fun k e => ?_⟩
  · show PyData.tuple [.str "times", eT a, .int r] = .tuple [.str "times", eT a, .int (r.toNat : Int)]
    rw [Int.toNat_of_nonneg (by omega)]
  · injection e with e
    omega
theorem b_turn (h : ρ.getD 0 .no = .st) (ha : ρ.getD 3 .no = .val (eT a)) : NVal (nCall sp__law_of 2 (nBst 0 (nB (nLst (nCons (upE (wTup (wCons (wC (.str "turned")) (wCons (wVar 3) wNil)))) (nCons (nTup (nCons (upE (wC (.str "moved"))) (nCons (upE (wVar 3)) (nCons (nOp rSubI (nDraw 41) (upE (wC (.int 20)))) nNil)))) nNil))) nB0))) ρ 2 (fun d => ∃ o, d = eT (.one o a) ∧ ownO o ∧ ∀ k, o = .times k → k ≤ 5) := by
  have hm := nv_tup (nv_cons (nv_up (ρ := ρ) (c_v (d := .str "moved"))) (nv_cons (nv_up (var_v ha)) (nv_cons (nv_sub (i := 20) (nv_draw (many := 41) h (by decide) (by decide)) nv_int) nv_nil))) (fun ds hd => by
    obtain ⟨_, _, rfl, _, _, _, rfl, _, _, _, rfl, _, rfl⟩ := hd
    show 3 ≤ 1000
    decide)
  have hl := nv_lst (nv_cons (nv_up (ρ := ρ) (pair_v (c_v (d := .str "turned")) (var_v ha))) (nv_cons hm nv_nil)) (fun ds hd => by
    obtain ⟨_, _, rfl, _, _, _, rfl, _, rfl⟩ := hd
    show 2 ≤ 1000
    decide)
  intro n P hb k
  show (match ρ.getD 0 .no with
    | .st => nB _ nB0 n ρ fun k bs => (Bd.st :: bs).length = 2 ∧ sp__law_of k (Bd.st :: bs) P
    | _ => False)
  rw [h]
  refine hl n _ (by show n + (1 : Int) ≤ _; omega) fun m d h1 h2 hd => ?_
  have h2 : m ≤ n + 1 := h2
  obtain ⟨_, rfl, _, _, rfl, rfl, _, _, rfl, ⟨_, rfl, _, _, rfl, rfl, _, _, rfl, rfl, _, _, rfl, ⟨r, rfl, r1, r2⟩, rfl⟩, rfl⟩ := hd
  refine ⟨rfl, [.tuple [.str "turned", eT a], .tuple [.str "moved", eT a, .int r]], rfl, by simp, by show 2 < 1000; decide, by omega, fun d hd => k _ _ (by omega) (by omega) ?_⟩
  rcases List.mem_cons.mp hd with rfl | hd
  · exact ⟨.turned, rfl, trivial, fun k e => nomatch e⟩
  · rw [List.mem_singleton.mp hd]
    exact ⟨.moved r, rfl, ⟨by omega, by omega⟩, fun k e => nomatch e⟩
theorem b_only {A : Fld} {x1 x2 x5 x6 x7 x8 x9 x10 x11 x12 : Bd} (hA : WF A) : NVal (nTup (nCons (upE (wC (.str "only"))) (nCons (upE (wVar 3)) (nCons (nCallB rTupD (nCons (nFz (nLc (nRng (upE (wOp Qd.rIxD (wVar 4) (wC (.int 0))))) (wgName 12) (nTst (nOp rGtI (nDraw 3) (upE (wC (.int 0))))) (wVar 12) [12])) nNil)) nNil)))) [.st, x1, x2, .val (eT a), .val (eF A), x5, x6, x7, x8, x9, x10, x11, x12] 10 (fun d => ∃ o, d = eT (.one o a) ∧ ownO o ∧ ∀ k, o = .times k → k ≤ 5) := by
  intro n P hb k
  have hn := hA.n
  have hb : n + 10 ≤ 2 ^ 60 := hb
  have k : ∀ m d, n ≤ m → m ≤ n + 10 → (∃ o, d = eT (.one o a) ∧ ownO o ∧ ∀ k, o = .times k → k ≤ 5) → P m d := k
  refine fld0 (ρ := [.st, x1, x2, .val (eT a), .val (eF A), x5, x6, x7, x8, x9, x10, x11, x12]) (F := A) (var_v (i := 4) rfl) _ ⟨⟨by omega, by omega⟩, ?_⟩
  show nLcL (wgName 12) (nTst (nOp rGtI (nDraw 3) (upE (wC (.int 0))))) (wVar 12) ((List.range A.n).map nt) [] n [.st, x1, x2, .val (eT a), .val (eF A), x5, x6, x7, x8, x9, x10, x11, .no] _
  refine n_only (by rw [List.length_range, List.length_nil]; omega) (by rw [List.length_range]; omega) fun l m hs h1 h2 => ?_
  rw [List.length_range] at h2
  refine ⟨by show 3 ≤ sizeLine; rw [sizeLine_eq]; decide, k m _ h1 (by omega) ⟨.only l, rfl, ⟨fun i hi => ?_, List.pairwise_lt_range.sublist hs⟩, fun k e => nomatch e⟩⟩
  have := List.mem_range.mp (hs.subset hi)
  omega
end
end Qp
set_option maxHeartbeats 4000000
namespace Qp
open PySem PySem.Spec PyProof.Rows L2 Qd
theorem b_tied {ρ : En} {a : Tm} {low : Int} (h : ρ.getD 0 .no = .st) (ha : ρ.getD 3 .no = .val (eT a)) (hl : ρ.getD 10 .no = .val (.int low)) (l0 : 0 ≤ low) (l1 : low < 6) : NVal (nTup (nCons (upE (wC (.str "tied"))) (nCons (upE (wVar 3)) (nCons (upE (wVar 10)) (nCons (nOp rModI (nCallB rInt (nCons (nOp rAddI (upE (wOp rAddI (wVar 10) (wC (.int 1)))) (nDraw 5)) nNil)) (upE (wC (.int 6)))) nNil))))) ρ 1 (fun d => ∃ o, d = eT (.one o a) ∧ ownO o ∧ ∀ k, o = .times k → k ≤ 5) := by
  intro n P hb k
  refine var_v ha _ (var_v hl _ (var_v hl _ ⟨trivial, ?_⟩))
  refine nv_draw (many := 5) h (by decide) (by decide) n _ hb fun m d h1 h2 hd => ?_
  obtain ⟨r, rfl, r0, r1⟩ := hd
  refine ⟨trivial, (by decide : (6 : Int) ≠ 0), by show 4 ≤ sizeLine; rw [sizeLine_eq]; decide, k m _ h1 h2 ?_⟩
  have e : (low + 1 + r).fmod 6 = if low + 1 + r < 6 then low + 1 + r else low + 1 + r - 6 := by
    rw [Int.fmod_eq_emod_of_nonneg _ (by decide)]
    split <;> omega
  have e0 : 0 ≤ (low + 1 + r).fmod 6 ∧ (low + 1 + r).fmod 6 ≤ 5 ∧ (low + 1 + r).fmod 6 ≠ low := by
    rw [e]
    split <;> omega
  refine ⟨.tied low.toNat ((low + 1 + r).fmod 6).toNat, ?_, ⟨by omega, by omega, by omega⟩, fun k e => nomatch e⟩
  show PyData.tuple [.str "tied", eT a, .int low, .int ((low + 1 + r).fmod 6)] = .tuple [.str "tied", eT a, .int (low.toNat : Int), .int (((low + 1 + r).fmod 6).toNat : Int)]
  rw [Int.toNat_of_nonneg l0, Int.toNat_of_nonneg e0.1]
theorem n_seq {w w2 : WSn} {E : EndN} {n : Int} {ρ : En} (h : w { E with nx := fun m ρ' => w2 E m ρ' } n ρ) : nSeq w w2 E n ρ := h
theorem n_set {i c : Nat} {we : WEn} {E : EndN} {n : Int} {ρ : En} {S : PyData → Prop} (h : NVal we ρ c S) (hb : n + (c : Int) ≤ 2 ^ 60) (k : ∀ m d, n ≤ m → m ≤ n + (c : Int) → S d → E.nx m (ρ.set i (.val d))) : nSet i we E n ρ := h n _ hb k
theorem n_seqset {i c : Nat} {we : WEn} {w2 : WSn} {E : EndN} {n : Int} {ρ : En} {S : PyData → Prop} (h : NVal we ρ c S) (hb : n + (c : Int) ≤ 2 ^ 60) (k : ∀ m d, n ≤ m → m ≤ n + (c : Int) → S d → w2 E m (ρ.set i (.val d))) : nSeq (nSet i we) w2 E n ρ := h n _ hb k
theorem n_if {t : WTn} {w w2 : WSn} {E : EndN} {n : Int} {ρ : En} {b : Bool} {u : WT} (e : t = upT u) (h : Tst u ρ b) (k1 : b = true → w E n ρ) (k2 : b = false → w2 E n ρ) : nIfS t w w2 E n ρ := by
  subst e
  exact h _ (by
    cases b
    · rw [if_neg (by simp)]
      exact k2 rfl
    · rw [if_pos rfl]
      exact k1 rfl)
/-- the def, called for a lesser depth -/
def SubT (sp : SpN) (D : Nat) : Prop := ∀ (d : Nat) (n : Int) (P : Int → PyData → Prop), d + 1 ≤ D → n + (cost d : Int) ≤ 2 ^ 60 → (∀ t F, TermOk d t F → ∀ m, n ≤ m → m ≤ n + (cost d : Int) → P m (.tuple [eT t, eF F])) → sp n [.st, .val (nt d)] P
theorem sub_spT (D : Nat) : SubT (spT D) (D + 1) := fun d n P hd hb k => ⟨d, by omega, rfl, hb, k⟩
theorem call_t {sp : SpN} {D d i j : Nat} (hs : SubT sp D) (hd : d + 1 ≤ D) {w2 : WSn} {E : EndN} {n : Int} {ρ : En} (h0 : ρ.getD 0 .no = .st) (h1 : ρ.getD 1 .no = .val (nt (d + 1))) (hb : n + (cost d : Int) ≤ 2 ^ 60)
    (k : ∀ t F, TermOk d t F → ∀ m, n ≤ m → m ≤ n + (cost d : Int) → w2 E m ((ρ.set i (.val (eT t))).set j (.val (eF F)))) :
    nSeq (nAsg (nCall sp 2 (nBst 0 (nB (upE (wOp rSubI (wVar 1) (wC (.int 1)))) nB0))) (wgTup 2 (wgCons (wgName i) (wgCons (wgName j) wgNil)))) w2 E n ρ := by
  refine n_seq ?_
  show (match ρ.getD 0 .no with
    | .st => nB (upE (wOp rSubI (wVar 1) (wC (.int 1)))) nB0 n ρ fun k bs => (Bd.st :: bs).length = 2 ∧ sp k (Bd.st :: bs) _
    | _ => False)
  rw [h0]
  refine var_v h1 _ ⟨trivial, rfl, ?_⟩
  show sp n [Bd.st, Bd.val (.int (((d + 1 : Nat) : Int) - 1))] _
  rw [show (((d + 1 : Nat) : Int) - 1) = ((d : Nat) : Int) by omega]
  exact hs d n _ hd hb fun t F ht m h2 h3 => ⟨rfl, k t F ht m h2 h3⟩
/-- what a branch leaves -/
def Left (d : Nat) (a : Tm) (A : Fld) (c : Nat) (n : Int) (E : EndN) : Prop := ∀ (t : Tm) (Fs : List Fld), NewOk d t Fs → ∀ m, n ≤ m → m ≤ n + (c : Int) → ∀ x2 x5 x7 x8 x10 x11 x12 : Bd,
  E.nx m [.st, .val (nt (d + 1)), x2, .val (eT a), .val (eF A), x5, .val (.list (Fs.map eF)), x7, x8, .val (eT t), x10, x11, x12]
theorem left_one {d c : Nat} {a : Tm} {A : Fld} {n : Int} {E : EndN} {we : WEn} {x2 x5 x7 x8 x9 x10 x11 x12 : Bd} (ha : TermOk d a A) (h : NVal we [.st, .val (nt (d + 1)), x2, .val (eT a), .val (eF A), x5, .val (.list [eF A]), x7, x8, x9, x10, x11, x12] c (fun d => ∃ o, d = eT (.one o a) ∧ ownO o ∧ ∀ k, o = .times k → k ≤ 5))
    (hb : n + (c : Int) ≤ 2 ^ 60) (L : Left d a A c n E) : nSet 9 we E n [.st, .val (nt (d + 1)), x2, .val (eT a), .val (eF A), x5, .val (.list [eF A]), x7, x8, x9, x10, x11, x12] :=
  n_set h hb fun m d' h1 h2 hd => by
    obtain ⟨o, rfl, ho, hk⟩ := hd
    exact L (.one o a) [A] (new_one ha ho hk) m h1 h2 _ _ _ _ _ _ _
theorem Left.sub {d c c' : Nat} {a : Tm} {A : Fld} {n n' : Int} {E : EndN} (L : Left d a A c n E) (h1 : n ≤ n') (h2 : n' + (c' : Int) ≤ n + (c : Int)) : Left d a A c' n' E := fun t Fs ht m h3 h4 => L t Fs ht m (by omega) (by omega)
theorem n_orT {u : WT} {t : WTn} {w w2 : WSn} {E : EndN} {n : Int} {ρ : En} (h : Tst u ρ true) (k : w E n ρ) : nIfS (nOr (upT u) t) w w2 E n ρ := h _ (by
  show if true = true then (if true = true then w E n ρ else w2 E n ρ) else _
  rw [if_pos rfl, if_pos rfl]
  exact k)
theorem n_orF {u : WT} {t : WTn} {c : Nat} {w rest : WSn} {E : EndN} {n : Int} {ρ : En} (h : Tst u ρ false) (ht : NT t ρ c) (hb : n + (c : Int) ≤ 2 ^ 60) (k1 : ∀ m, n ≤ m → m ≤ n + (c : Int) → w { E with nx := fun m ρ' => rest E m ρ' } m ρ) (k2 : ∀ m, n ≤ m → m ≤ n + (c : Int) → rest E m ρ) :
    nSeq (nIfS (nOr (upT u) t) w (upS wNext)) rest E n ρ := h _ (by
  show if false = true then _ else t n ρ fun m c => if c = true then w _ m ρ else upS wNext _ m ρ
  rw [if_neg (by simp)]
  refine ht n _ hb fun m b h1 h2 => ?_
  cases b
  · rw [if_neg (by simp)]
    exact k2 m h1 h2
  · rw [if_pos rfl]
    exact k1 m h1 h2)
theorem n_upset {i : Nat} {we : WE} {rest : WSn} {E : EndN} {n : Int} {ρ : En} {d : PyData} (h : Val we ρ d) (k : rest E n (ρ.set i (.val d))) : nSeq (upS (wSet i we)) rest E n ρ := h _ k
theorem n_upset1 {i : Nat} {we : WE} {E : EndN} {n : Int} {ρ : En} {d : PyData} (h : Val we ρ d) (k : E.nx n (ρ.set i (.val d))) : upS (wSet i we) E n ρ := h _ k
theorem n_uppar {i j : Nat} {wa wb : WE} {E : EndN} {n : Int} {ρ : En} {x y : PyData} (h : Val wa ρ x) (g : Val wb ρ y) (k : E.nx n ((ρ.set i (.val x)).set j (.val y))) : upS (wPar i j wa wb) E n ρ := h _ (g _ k)
theorem n_ifu {u : WT} {w w2 : WSn} {E : EndN} {n : Int} {ρ : En} {b : Bool} (h : Tst u ρ b) (k1 : b = true → w E n ρ) (k2 : b = false → w2 E n ρ) : nIfS (upT u) w w2 E n ρ := n_if rfl h k1 k2
theorem which_v {ρ : En} {kk : Int} (h : ρ.getD 5 .no = .val (.int kk)) : ∃ u : Bool, Val (wOp Qd.rIxD (wFz (wLst (wCons (wC (.str "beside")) (wCons (wC (.str "below")) wNil)))) (wOp rModI (wCallB rInt (wCons (wVar 5) wNil)) (wC (.int 2)))) ρ (.str (if u then "below" else "beside")) := by
  have e : kk.fmod 2 = 0 ∨ kk.fmod 2 = 1 := by
    rw [Int.fmod_eq_emod_of_nonneg _ (by decide)]
    omega
  have hz : 2 ≤ sizeLine := by rw [sizeLine_eq]; decide
  rcases e with e | e
  · refine ⟨false, fun Q q => ⟨hz, var_v h _ ⟨(by decide : (2 : Int) ≠ 0), ?_⟩⟩⟩
    show ∃ d, atI [PyData.str "beside", PyData.str "below"] (kk.fmod 2) = some d ∧ Q d
    rw [e]
    exact ⟨_, rfl, q⟩
  · refine ⟨true, fun Q q => ⟨hz, var_v h _ ⟨(by decide : (2 : Int) ≠ 0), ?_⟩⟩⟩
    show ∃ d, atI [PyData.str "beside", PyData.str "below"] (kk.fmod 2) = some d ∧ Q d
    rw [e]
    exact ⟨_, rfl, q⟩
theorem rd__law_term {sp : SpN} {D : Nat} (hs : SubT sp D) : ∀ n bs Q, spT D n bs Q → w__law_term sp { nx := fun m _ => Q m .none, rt := Q } n (bs ++ List.replicate (N__law_term.length - bs.length) .no) := by
  rintro n bs Q ⟨d, hd, rfl, hb, q⟩
  show w__law_term sp { nx := fun m _ => Q m .none, rt := Q } n [.st, .val (nt d), .no, .no, .no, .no, .no, .no, .no, .no, .no, .no, .no]
  have c5 : ∀ d, 5 ≤ cost d := fun d => by
    cases d with
    | zero => exact Nat.le_refl _
    | succ d => show 5 ≤ 20 + 2 * cost d; omega
  unfold w__law_term
  have cd := c5 d
  cases d with
  | zero =>
    refine n_seq (n_orT (eq_b (a := ((0 : Nat) : Int)) (var_v rfl) c_v rfl) (leaf_w (by omega) fun t F ht m' h3 h4 => ?_))
    exact q t F (ht 0) m' (by omega) (by omega)
  | succ d =>
    have hcd : cost (d + 1) = 20 + 2 * cost d := rfl
    have cd0 := c5 d
    refine n_orF (eq_b (a := ((d + 1 : Nat) : Int)) (var_v rfl) c_v (decide_eq_false (by omega))) (nt_eq (nv_draw (many := 6) rfl (by decide) (by decide))) (by show n + (1 : Int) ≤ _; omega) (fun m h1 h2 => ?_) (fun m h1 h2 => ?_)
    · have h2 : m ≤ n + 1 := h2
      exact leaf_w (by omega) fun t F ht m' h3 h4 => q t F (ht (d + 1)) m' (by omega) (by omega)
    have h2 : m ≤ n + 1 := h2
    refine call_t hs hd rfl rfl (by omega) fun a A ha m2 h3 h4 => ?_
    have wa := den_wf ha.form ha.den
    refine n_seqset (nv_draw (many := 9) rfl (by decide) (by decide)) (by show m2 + (1 : Int) ≤ _; omega) fun m3 kd h5 h6 hk => ?_
    have h6 : m3 ≤ m2 + 1 := h6
    obtain ⟨kk, rfl, k0, k1⟩ := hk
    refine n_upset (d := .list [eF A]) (val_fz (lst_v (cons_v (d := eF A) (var_v rfl) nil_v) (by show 1 ≤ 1000; decide))) ?_
    refine n_seq ?_
    have L : Left d a A (10 + cost d) m3 { nx := fun m ρ' => endW { nx := fun m _ => Q m .none, rt := Q } m ρ', rt := Q } := fun t Fs ht m4 h7 h8 x2 x5 x7 x8 x10 x11 x12 => end_w ha ht fun t' F' ht' => q t' F' ht' m4 (by omega) (by omega)
    refine n_ifu (lt_b (a := kk) (var_v rfl) c_v rfl) (fun _ => ?_) (fun _ => ?_)
    · refine call_t hs hd rfl rfl (by omega) fun b B hb' m4 h7 h8 => ?_
      have wb := den_wf hb'.form hb'.den
      obtain ⟨u, hu⟩ := which_v (ρ := [.st, .val (nt (d + 1)), .no, .val (eT a), .val (eF A), .val (.int kk), .val (.list [eF A]), .val (eT b), .val (eF B), .no, .no, .no, .no]) (kk := kk) rfl
      refine n_uppar (x := eT (.dbl u a b)) (y := .list [eF A, eF B]) (trip_v hu (var_v (d := eT a) rfl) (var_v (d := eT b) rfl)) (val_fz (lst_v (cons_v (d := eF A) (var_v rfl) (cons_v (d := eF B) (var_v rfl) nil_v)) (by show 2 ≤ 1000; decide))) ?_
      exact L (.dbl u a b) [A, B] (new_dbl ha hb') m4 (by omega) (by omega) _ _ _ _ _ _ _
    refine n_ifu (eq_b (a := kk) (var_v rfl) c_v rfl) (fun _ => ?_) (fun _ => ?_)
    · exact left_one ha (b_row rfl rfl) (by show m3 + (1 : Int) ≤ _; omega) (L.sub (by omega) (by show m3 + (1 : Int) ≤ _; omega))
    refine n_ifu (eq_b (a := kk) (var_v rfl) c_v rfl) (fun _ => ?_) (fun _ => ?_)
    · exact left_one ha (b_turn rfl rfl) (by show m3 + (2 : Int) ≤ _; omega) (L.sub (by omega) (by show m3 + (2 : Int) ≤ _; omega))
    refine n_ifu (eq_b (a := kk) (var_v rfl) c_v rfl) (fun _ => ?_) (fun _ => ?_)
    · exact left_one ha (b_times rfl rfl) (by show m3 + (1 : Int) ≤ _; omega) (L.sub (by omega) (by show m3 + (1 : Int) ≤ _; omega))
    refine n_ifu (eq_b (a := kk) (var_v rfl) c_v rfl) (fun _ => ?_) (fun _ => ?_)
    · refine n_seqset (nv_draw (many := 6) rfl (by decide) (by decide)) (by show m3 + (1 : Int) ≤ _; omega) fun m4 ld h7 h8 hl => ?_
      have h8 : m4 ≤ m3 + 1 := h8
      obtain ⟨low, rfl, l0, l1⟩ := hl
      exact left_one ha (b_tied rfl rfl rfl l0 l1) (by show m4 + (1 : Int) ≤ _; omega) (L.sub h7 (by show m4 + (1 : Int) ≤ _; omega))
    · exact left_one ha (b_only wa) (by show m3 + (10 : Int) ≤ _; omega) (L.sub (by omega) (by show m3 + (10 : Int) ≤ _; omega))
end Qp
set_option maxHeartbeats 4000000
namespace Qp
open PySem PySem.Spec PyProof.Rows L2 Qd
/-! ### the law's own terms -/
def ff : Rel := fun _ _ => false
def mk1 : Int × Int := (-1000, 1000)
abbrev oneT : Tm := .thing (-1000) 1000
/-- k things, each below the next -/
def chR (k : Nat) : Rel := fun i j => decide (i < j) && decide (j < k)
def chF (k : Nat) : Fld := ⟨k, chR k, List.replicate k mk1⟩
theorem ch_wf {k : Nat} (h : k ≤ 10) : WF (chF k) := by
  refine ⟨h, List.length_replicate, fun x hx => ?_, fun i j e => ?_, fun i => ?_, fun i j l e1 e2 => ?_⟩
  · rw [List.eq_of_mem_replicate hx]
    rfl
  · have e : (decide (i < j) && decide (j < k)) = true := e
    rw [Bool.and_eq_true, decide_eq_true_eq, decide_eq_true_eq] at e
    show i < k ∧ j < k
    omega
  · show (decide (i < i) && decide (i < k)) = false
    rw [decide_eq_false (Nat.lt_irrefl i)]
    rfl
  · have e1 : (decide (i < j) && decide (j < k)) = true := e1
    have e2 : (decide (j < l) && decide (l < k)) = true := e2
    show (decide (i < l) && decide (l < k)) = true
    rw [Bool.and_eq_true, decide_eq_true_eq, decide_eq_true_eq] at e1 e2 ⊢
    omega
theorem two_some {A B : Fld} {b : Bool} (ha : WF A) (hb : WF B) (hn : A.n + B.n ≤ 10) : two A B b = some (laidF A B b) := by
  unfold two checked
  rw [clo_self (relU_rng ha hb) (relU_tr ha hb), if_pos]
  · rfl
  · refine ⟨hn, List.all_eq_true.mpr fun x hx => ?_, List.all_eq_true.mpr fun i _ => by rw [relU_irr ha hb]; rfl⟩
    rcases List.mem_append.mp hx with hx | hx
    · exact ha.ok x hx
    · exact hb.ok x hx
theorem ch_add (k l : Nat) : laidF (chF k) (chF l) true = chF (k + l) := by
  unfold laidF chF
  congr 1
  · refine rel_ext fun i j => ?_
    unfold relU chR
    simp only [Bool.true_and]
    by_cases h1 : i < k
    · rw [if_pos h1]
      by_cases h2 : j < k
      · rw [if_pos h2]
        simp only [Bool.and_eq_true, decide_eq_true_eq]
        exact ⟨fun z => ⟨z.1, by omega⟩, fun z => ⟨z.1, h2⟩⟩
      · rw [if_neg h2]
        simp only [Bool.and_eq_true, decide_eq_true_eq]
        exact ⟨fun z => ⟨by omega, z⟩, fun z => z.2⟩
    · rw [if_neg h1]
      by_cases h2 : j < k
      · rw [if_pos h2]
        simp only [Bool.and_eq_true, decide_eq_true_eq]
        exact ⟨fun z => (by cases z), fun z => absurd z.1 (by omega)⟩
      · rw [if_neg h2]
        simp only [Bool.and_eq_true, decide_eq_true_eq]
        exact ⟨fun z => ⟨by omega, by omega⟩, fun z => ⟨by omega, by omega⟩⟩
  · rw [List.replicate_append_replicate]
theorem one_ch : (⟨1, fun _ _ => false, [mk1]⟩ : Fld) = chF 1 := by
  unfold chF
  congr 1
  refine rel_ext fun i j => ?_
  unfold chR
  rw [Bool.and_eq_true, decide_eq_true_eq, decide_eq_true_eq]
  constructor
  · intro z; cases z
  · omega
theorem den_one : den oneT = some (chF 1) := by
  rw [← one_ch]
  rfl
theorem row_ch : ∀ (k m : Nat), m + k ≤ 10 → rowN (chF 1) k (some (chF m)) = some (chF (m + k))
  | 0, m, _ => rfl
  | k + 1, m, h => by
    show rowN (chF 1) k (two (chF m) (chF 1) true) = _
    rw [two_some (ch_wf (by omega)) (ch_wf (by omega)) (by show m + 1 ≤ 10; omega), ch_add, row_ch k (m + 1) (by omega)]
    congr 2
    omega
abbrev tenT : Tm := .one (.row 10) oneT
theorem den_ten : den tenT = some (chF 10) := by
  show ((den oneT).bind fun A => denO A (.row 10)) = _
  rw [den_one]
  exact row_ch 9 1 (by omega)
theorem form_one : form oneT := rfl
theorem good_ten : Good tenT (chF 10) := ⟨den_ten, ⟨⟨by omega, by omega⟩, form_one⟩, by show 1 + 1 ≤ 20; omega, by show 1 + 1 ≤ 8; omega⟩
/-- two times two -/
abbrev pairT : Tm := .dbl true oneT oneT
theorem den_pair : den pairT = some (chF 2) := by
  show ((den oneT).bind fun A => (den oneT).bind fun B => two A B true) = _
  rw [den_one]
  show two (chF 1) (chF 1) true = _
  rw [two_some (ch_wf (by omega)) (ch_wf (by omega)) (by decide), ch_add]
def sqF : Fld := laidF (chF 2) (chF 2) false
abbrev sqT : Tm := .dbl false pairT pairT
theorem den_sq : den sqT = some sqF := by
  show ((den pairT).bind fun A => (den pairT).bind fun B => two A B false) = _
  rw [den_pair]
  show two (chF 2) (chF 2) false = some sqF
  exact two_some (ch_wf (k := 2) (by omega)) (ch_wf (k := 2) (by omega)) (by decide)
theorem form_sq : form sqT := ⟨⟨form_one, form_one⟩, form_one, form_one⟩
theorem checked_yes {n : Nat} {p : Rel} {s : List (Int × Int)} (h1 : n ≤ 10) (h2 : s.all okSeen = true) (h3 : (List.range n).all (fun i => !(clo n p i i)) = true) : checked n p s = some ⟨n, clo n p, s⟩ := by
  unfold checked
  rw [if_pos ⟨h1, h2, h3⟩]
def zedF : Fld := ⟨4, clo 4 (addR sqF.lt 0 3), sqF.s⟩
abbrev zedT : Tm := .one (.tied 0 3) sqT
theorem den_zed : den zedT = some zedF := by
  show ((den sqT).bind fun A => denO A (.tied 0 3)) = _
  rw [den_sq]
  show (if 0 < sqF.n ∧ 3 < sqF.n then checked sqF.n (addR sqF.lt 0 3) sqF.s else none) = _
  rw [if_pos (by decide +kernel)]
  exact checked_yes (by decide +kernel) (by decide +kernel) (by decide +kernel)
theorem good_zed : Good zedT zedF := ⟨den_zed, ⟨⟨by omega, by omega, by omega⟩, form_sq⟩, by show 1 + (1 + (1 + 1 + 1) + (1 + 1 + 1)) ≤ 20; omega, by show 1 + (1 + max (1 + max 1 1) (1 + max 1 1)) ≤ 8; decide⟩
theorem ties_zed : tiesL 4 zedF.lt = [(0, 1), (0, 3), (2, 3)] := by decide +kernel
def chnF : Fld := ⟨4, clo 4 (addR sqF.lt 1 2), sqF.s⟩
abbrev chnT : Tm := .one (.tied 1 2) sqT
theorem den_chn : den chnT = some chnF := by
  show ((den sqT).bind fun A => denO A (.tied 1 2)) = _
  rw [den_sq]
  show (if 1 < sqF.n ∧ 2 < sqF.n then checked sqF.n (addR sqF.lt 1 2) sqF.s else none) = _
  rw [if_pos (by decide +kernel)]
  exact checked_yes (by decide +kernel) (by decide +kernel) (by decide +kernel)
theorem good_chn : Good chnT chnF := ⟨den_chn, ⟨⟨by omega, by omega, by omega⟩, form_sq⟩, by show 1 + (1 + (1 + 1 + 1) + (1 + 1 + 1)) ≤ 20; omega, by show 1 + (1 + max (1 + max 1 1) (1 + max 1 1)) ≤ 8; decide⟩
theorem ties_chn : tiesL 4 chnF.lt = [(0, 1), (0, 2), (0, 3), (1, 2), (1, 3), (2, 3)] := by decide +kernel
def wideF : Fld := ⟨3, clo 3 (subR (chR 10) [0, 4, 9]), List.replicate 3 mk1⟩
abbrev wideT : Tm := .one (.only [0, 4, 9]) tenT
theorem den_wide : den wideT = some wideF := by
  show ((den tenT).bind fun A => denO A (.only [0, 4, 9])) = _
  rw [den_ten]
  show (if ([0, 4, 9] : List Nat).all (fun i => decide (i < 10)) = true then checked 3 (subR (chR 10) [0, 4, 9]) (([0, 4, 9] : List Nat).map fun i => (List.replicate 10 mk1).getD i (0, 0)) else none) = _
  rw [if_pos (by decide +kernel)]
  exact checked_yes (by decide +kernel) (by decide +kernel) (by decide +kernel)
theorem good_wide : Good wideT wideF := by
  refine ⟨den_wide, ⟨⟨?_, ?_⟩, good_ten.form⟩, by show 1 + (1 + 1) ≤ 20; omega, by show 1 + (1 + 1) ≤ 8; omega⟩
  · show ∀ i ∈ ([0, 4, 9] : List Nat), i ≤ 9
    decide
  · show ([0, 4, 9] : List Nat).Pairwise (· < ·)
    decide
theorem ties_wide : tiesL 3 wideF.lt = [(0, 1), (0, 2), (1, 2)] := by decide +kernel
def pt (w h : Int) : Fld := ⟨1, ff, [(w, h)]⟩
theorem clo_ff : clo 1 ff = ff := rfl
theorem flip_ff : flipR ff = ff := rfl
theorem turn_pt {w h : Int} (k : okSeen (0 - w, h) = true) : denO (pt w h) .turned = some (pt (0 - w) h) := by
  show checked 1 (flipR ff) [(0 - w, h)] = _
  rw [flip_ff, checked_yes (by decide) (by rw [List.all_cons, k]; rfl) (by rw [clo_ff]; rfl), clo_ff]
  rfl
def turnT (a : Tm) : Tm := .one .turned a
theorem den_turn {a : Tm} {w h : Int} (e : den a = some (pt w h)) (k : okSeen (0 - w, h) = true) : den (turnT a) = some (pt (0 - w) h) := by
  show ((den a).bind fun A => denO A .turned) = _
  rw [e]
  exact turn_pt k
abbrev deepT : Tm := turnT (turnT (turnT (turnT (turnT (turnT (turnT (.thing 5 1)))))))
theorem good_deep : Good deepT (pt (-5) 1) := by
  refine ⟨?_, ⟨trivial, trivial, trivial, trivial, trivial, trivial, trivial, rfl⟩, by decide, by decide⟩
  have h0 : den (.thing 5 1) = some (pt 5 1) := rfl
  have h1 := den_turn h0 (by decide)
  have h2 := den_turn h1 (by decide)
  have h3 := den_turn h2 (by decide)
  have h4 := den_turn h3 (by decide)
  have h5 := den_turn h4 (by decide)
  have h6 := den_turn h5 (by decide)
  exact den_turn h6 (by decide)
def zF : Fld := ⟨0, ff, []⟩
theorem z_wf : WF zF := ⟨by show 0 ≤ 10; omega, rfl, fun x hx => (nomatch hx), fun i j e => (nomatch e), fun i => rfl, fun i j k e => (nomatch e)⟩
theorem z_two : two zF zF true = some zF := by
  rw [two_some z_wf z_wf (by decide)]
  have e : relU zF zF true = ff := rel_ext fun i j => by
    unfold relU zF
    rw [if_neg (Nat.not_lt_zero i), if_neg (Nat.not_lt_zero j)]
    exact Iff.rfl
  unfold laidF
  rw [e]
  rfl
theorem z_row : ∀ k, rowN zF k (some zF) = some zF
  | 0 => rfl
  | k + 1 => by
    show rowN zF k (two zF zF true) = _
    rw [z_two]
    exact z_row k
abbrev noneT : Tm := .one (.row 10) .nil
theorem good_none : Good noneT zF := ⟨z_row 9, ⟨⟨by omega, by omega⟩, trivial⟩, by show 1 + 1 ≤ 20; omega, by show 1 + 1 ≤ 8; omega⟩
abbrev movT : Tm := .one (.moved 2000) oneT
theorem good_mov : Good movT (pt 1000 1000) := by
  refine ⟨?_, ⟨⟨by omega, by omega⟩, form_one⟩, by show 1 + 1 ≤ 20; omega, by show 1 + 1 ≤ 8; omega⟩
  show checked 1 ff [(-1000 + 2000, 1000)] = _
  rw [checked_yes (by decide) (by decide) (by rw [clo_ff]; rfl), clo_ff]
  rfl
/-! ### the chain by its pairs -/
def stepsL : List Pr := (List.range 9).map fun i => (i, i + 1)
theorem mem_steps {x : Pr} : x ∈ stepsL ↔ x.1 < 9 ∧ x.2 = x.1 + 1 := by
  unfold stepsL
  rw [List.mem_map]
  constructor
  · rintro ⟨i, hi, rfl⟩
    exact ⟨List.mem_range.mp hi, rfl⟩
  · rintro ⟨h1, h2⟩
    exact ⟨x.1, List.mem_range.mpr h1, Prod.ext rfl h2.symm⟩
theorem steps_clo : clo 10 (memR stepsL) = chR 10 := by
  refine rel_ext fun i j => ?_
  rw [clo_iff (fun i j e => by have := mem_steps.mp (memR_iff.mp e); simp only [] at this; omega)]
  unfold chR
  rw [Bool.and_eq_true, decide_eq_true_eq, decide_eq_true_eq]
  constructor
  · intro g
    induction g with
    | one e => have := mem_steps.mp (memR_iff.mp e); simp only [] at this; omega
    | cons e _ ih => have := mem_steps.mp (memR_iff.mp e); simp only [] at this; omega
  · rintro ⟨h1, h2⟩
    have key : ∀ (m i j : Nat), j = i + m + 1 → j < 10 → Pth (memR stepsL) i j := fun m => by
      induction m with
      | zero => exact fun i j e h => .one (memR_iff.mpr (mem_steps.mpr ⟨by simp only []; omega, by simp only []; omega⟩))
      | succ m ih => exact fun i j e h => .cons (memR_iff.mpr (mem_steps.mpr ⟨by show i < 9; omega, rfl⟩)) (ih (i + 1) j (by omega) h)
    exact key (j - i - 1) i j (by omega) h2
end Qp
set_option maxHeartbeats 4000000
namespace Qp
open PySem PySem.Spec PyProof.Rows L2 Qd
theorem TermOk.good {d : Nat} {t : Tm} {F : Fld} (h : TermOk d t F) (hd : d ≤ 3) : Good t F := by
  have h1 := h.words
  have h2 := h.high
  have h3 : 2 ^ (d + 1) ≤ 2 ^ 4 := Nat.pow_le_pow_right (by omega) (by omega)
  exact ⟨h.den, h.form, by omega, by omega⟩
theorem call_c {D d i j : Nat} {z : Int} (hd : d ≤ D) (hz : z = (d : Int)) {w2 : WSn} {E : EndN} {n : Int} {ρ : En} (h0 : ρ.getD 1 .no = .st) (hb : n + (cost d : Int) ≤ 2 ^ 60)
    (k : ∀ t F, TermOk d t F → ∀ m, n ≤ m → m ≤ n + (cost d : Int) → w2 E m ((ρ.set i (.val (eT t))).set j (.val (eF F)))) :
    nSeq (nAsg (nCall (spT D) 2 (nBst 1 (nB (upE (wC (.int z))) nB0))) (wgTup 2 (wgCons (wgName i) (wgCons (wgName j) wgNil)))) w2 E n ρ := by
  subst hz
  refine n_seq ?_
  show (match ρ.getD 1 .no with
    | .st => nB (upE (wC (.int (d : Int)))) nB0 n ρ fun k bs => (Bd.st :: bs).length = 2 ∧ spT D k (Bd.st :: bs) _
    | _ => False)
  rw [h0]
  exact ⟨rfl, d, hd, rfl, hb, fun t F ht m h2 h3 => ⟨rfl, k t F ht m h2 h3⟩⟩
theorem n_upif {t : WT} {w : WS} {E : EndN} {n : Int} {ρ : En} (h : Tst t ρ false) (k : E.nx n ρ) : upS (wIfS t w wNext) E n ρ := h _ (by
  rw [if_neg (by simp)]
  exact k)
theorem call4_v {sp : SpB} {wa wb wc wd : WE} {ρ : En} {a b c d : PyData} {Q : PyData → Prop} (ha : Val wa ρ a) (hb : Val wb ρ b) (hc : Val wc ρ c) (hd : Val wd ρ d) (h : sp [.val a, .val b, .val c, .val d] Q) : wCall sp 4 (wB wa (wB wb (wB wc (wB wd wB0)))) ρ Q := ha _ (hb _ (hc _ (hd _ ⟨rfl, h⟩)))
theorem law_turn {E : EndN} {n : Int} {x0 x2 x3 x4 x5 x6 x7 x8 x9 x10 x11 x12 x13 x14 x15 x16 : Bd} (hb : n + 340 ≤ 2 ^ 60) (k : ∀ m, n ≤ m → m ≤ n + 340 → ∀ x3 x4 x5 x6 x7 x8 : Bd, E.nx m [x0, .st, x2, x3, x4, x5, x6, x7, x8, x9, x10, x11, x12, x13, x14, x15, x16]) :
    w_law (spT 3) E n [x0, .st, x2, x3, x4, x5, x6, x7, x8, x9, x10, x11, x12, x13, x14, x15, x16] := by
  have c3 : cost 3 = 180 := rfl
  have c2 : cost 2 = 80 := rfl
  refine call_c (d := 3) (by omega) rfl rfl (by rw [c3]; omega) fun t F ht m1 h1 h2 => ?_
  rw [c3] at h2
  refine call_c (d := 2) (by omega) rfl rfl (by rw [c2]; omega) fun a A ha m2 h3 h4 => ?_
  rw [c2] at h4
  refine call_c (d := 2) (by omega) rfl rfl (by rw [c2]; omega) fun b B hb' m3 h5 h6 => ?_
  rw [c2] at h6
  have w1 := ha.words
  have w2 := hb'.words
  have g1 := ha.high
  have g2 := hb'.high
  have p3 : 2 ^ (2 + 1) = 8 := rfl
  have hcap : ∀ x ∈ A.s, x.2 ≤ 333 := fun x hx => by
    have := ha.wt x hx
    have c : cap 2 = 100 := rfl
    omega
  refine n_upif (or_f (not_s fun Q q => call2_v (var_v rfl) (var_v rfl) ⟨t, F, ht.good (by omega), rfl, q⟩) (not_s fun Q q => call4_v (a := eT a) (b := eF A) (c := eT b) (d := eF B) (var_v rfl) (var_v rfl) (var_v rfl) (var_v rfl) ⟨a, A, b, B, ha.good (by omega), hb'.good (by omega), by omega, by omega, by omega, hcap, rfl, q⟩)) (k m3 (by omega) (by omega) _ _ _ _ _ _)
theorem law_loop {E : EndN} {x0 x9 x10 x11 x12 x13 x14 x15 x16 : Bd} : ∀ {ds : List PyData} {n : Int} {x2 x3 x4 x5 x6 x7 x8 : Bd}, n + 340 * (ds.length : Int) ≤ 2 ^ 60 → (∀ m x2 x3 x4 x5 x6 x7 x8, E.nx m [x0, .st, x2, x3, x4, x5, x6, x7, x8, x9, x10, x11, x12, x13, x14, x15, x16]) →
    nForL (wgName 2) (w_law (spT 3)) ds E n [x0, .st, x2, x3, x4, x5, x6, x7, x8, x9, x10, x11, x12, x13, x14, x15, x16]
  | [], n, x2, x3, x4, x5, x6, x7, x8, hb, k => k n _ _ _ _ _ _ _
  | d :: ds, n, x2, x3, x4, x5, x6, x7, x8, hb, k => by
    rw [List.length_cons] at hb
    show w_law (spT 3) { E with nx := nForL _ _ ds E, ct := nForL _ _ ds E, bk := E.nx } n [x0, .st, .val d, x3, x4, x5, x6, x7, x8, x9, x10, x11, x12, x13, x14, x15, x16]
    exact law_turn (by omega) fun m h1 h2 x3 x4 x5 x6 x7 x8 => law_loop (by omega) k
/-! ### the last part -/
theorem up_s {w : WS} {E : EndN} {n : Int} {ρ : En} (h : w { nx := E.nx n, rt := E.rt n, bk := E.bk n, ct := E.ct n } ρ) : upS w E n ρ := h
theorem neg_v {i : Int} {ρ : En} : Val (wUn rNegD (wC (.int i))) ρ (.int (-i)) := fun Q q => q
theorem mulT_v {wa wb : WE} {ρ : En} {x : PyData} {k : Nat} (ha : Val wa ρ (.tuple [x])) (hb : Val wb ρ (nt k)) (h1 : 2 ≤ k) (h2 : k ≤ 1000) : Val (wOp rMulT wa wb) ρ (.tuple (List.replicate k x)) := fun Q q => ha _ (hb _ ⟨⟨by simp, by omega, by omega, by show 1 ≤ 1000; decide⟩, by
  show Q (.tuple (List.replicate (k : Int).toNat [x]).flatten)
  have e : ∀ k : Nat, (List.replicate k [x]).flatten = List.replicate k x := fun k => by
    induction k with
    | zero => rfl
    | succ k ih => rw [List.replicate_succ, List.flatten_cons, ih, List.replicate_succ]; rfl
  rw [show (k : Int).toNat = k from rfl, e]
  exact q⟩)
theorem one1_v {wa : WE} {ρ : En} {a : PyData} (ha : Val wa ρ a) : Val (wTup (wCons wa wNil)) ρ (.tuple [a]) := tup_v (cons_v ha nil_v) (by show 1 ≤ 1000; decide)
theorem quad_v {wa wb wc wd : WE} {ρ : En} {a b c d : PyData} (ha : Val wa ρ a) (hb : Val wb ρ b) (hc : Val wc ρ c) (hd : Val wd ρ d) : Val (wTup (wCons wa (wCons wb (wCons wc (wCons wd wNil))))) ρ (.tuple [a, b, c, d]) := tup_v (cons_v ha (cons_v hb (cons_v hc (cons_v hd nil_v)))) (by show 4 ≤ 1000; decide)
abbrev wMarks (k : Int) : WE := wOp rMulT (wTup (wCons (wTup (wCons (wUn rNegD (wC (.int 1000))) (wCons (wC (.int 1000)) wNil))) wNil)) (wC (.int k))
theorem marks_v {k : Nat} {ρ : En} (h1 : 2 ≤ k) (h2 : k ≤ 1000) : Val (wMarks (k : Int)) ρ (.tuple ((List.replicate k mk1).map ipr)) := by
  rw [List.map_replicate]
  exact mulT_v (one1_v (pair_v neg_v c_v)) c_v h1 h2
abbrev wPr (i j : Int) : WE := wTup (wCons (wC (.int i)) (wCons (wC (.int j)) wNil))
theorem pr_v {i j : Nat} {ρ : En} : Val (wPr (i : Int) (j : Int)) ρ (npr (i, j)) := pair_v c_v c_v
theorem fld_v {w0 w1 w2 : WE} {ρ : En} {F : Fld} {n : Nat} {l : List Pr} {s : List (Int × Int)} (h0 : Val w0 ρ (nt n)) (h1 : Val w1 ρ (.tuple (l.map npr))) (h2 : Val w2 ρ (.tuple (s.map ipr))) (en : F.n = n) (el : tiesL F.n F.lt = l) (es : F.s = s) : Val (wTup (wCons w0 (wCons w1 (wCons w2 wNil)))) ρ (eF F) := by
  have := trip_v h0 h1 h2
  unfold eF
  rw [el, es, en]
  exact this
theorem ff_ties : tiesL 1 ff = [] := rfl
theorem zed_s : zedF.s = List.replicate 4 mk1 := rfl
theorem chn_s : chnF.s = List.replicate 4 mk1 := rfl
def lawL : List (Tm × Fld) := [(tenT, chF 10), (zedT, zedF), (deepT, pt (-5) 1), (wideT, wideF), (noneT, zF), (movT, pt 1000 1000), (chnT, chnF)]
def eTF (x : Tm × Fld) : PyData := .tuple [eT x.1, eF x.2]
theorem law_good : ∀ x ∈ lawL, Good x.1 x.2 := by
  intro x hx
  rcases List.mem_cons.mp hx with rfl | hx
  · exact good_ten
  rcases List.mem_cons.mp hx with rfl | hx
  · exact good_zed
  rcases List.mem_cons.mp hx with rfl | hx
  · exact good_deep
  rcases List.mem_cons.mp hx with rfl | hx
  · exact good_wide
  rcases List.mem_cons.mp hx with rfl | hx
  · exact good_none
  rcases List.mem_cons.mp hx with rfl | hx
  · exact good_mov
  rw [List.mem_singleton.mp hx]
  exact good_chn
theorem turn_v {we : WE} {ρ : En} {a : Tm} (h : Val we ρ (eT a)) : Val (wTup (wCons (wC (.str "turned")) (wCons we wNil))) ρ (eT (turnT a)) := pair_v c_v h
theorem setO_v {i : Nat} {wl : WP} {rest : WS} {E : WEnds} {ρ : En} {ds : List PyData} (h : ValP wl ρ ds) (k : rest E (ρ.set i (.lst ds))) : wSeq (wSetO i wl) rest E ρ := h _ k
theorem pk_v {i : Nat} {ρ : En} {ds : List PyData} (h : ρ.getD i .no = .lst ds) : Val (wPk i) ρ (.list ds) := fun Q q => by
  unfold wPk
  rw [h]
  exact q
theorem frz_v {i : Nat} {w : WS} {E : WEnds} {ρ : En} {ds : List PyData} (h : ρ.getD i .no = .lst ds) (k : w E (ρ.set i (.val (.list ds)))) : wFrz i w E ρ := by
  unfold wFrz
  rw [h]
  exact k
end Qp
set_option maxHeartbeats 400000
namespace Qp
open PySem PySem.Spec PyProof.Rows L2 Qd
theorem eqD_v {wa wb : WE} {ρ : En} {x y : PyData} (ha : Val wa ρ x) (hb : Val wb ρ y) (h1 : SeqAt.shaped x = true) (h2 : SeqAt.shaped y = true) : Val (wOp Qd.rEqD wa wb) ρ (.bool (PyData.eqv x y)) := fun Q q => ha _ (hb _ ⟨⟨h1, h2⟩, q⟩)
theorem law_rest {E : EndN} {n : Int} {x2 x3 x4 x5 x6 x7 x8 : Bd} (hr : E.rt n = fun d => d = .bool true) : w_lawR (spT 3) E n [.no, .st, x2, x3, x4, x5, x6, x7, x8, .no, .no, .no, .no, .no, .no, .no, .no] := by
  unfold w_lawR
  refine up_s ?_
  refine seq_set (d := eT oneT) (trip_v c_v neg_v c_v) ?_
  let e1 : En := [.no, .st, x2, x3, x4, x5, x6, x7, x8, .val (eT oneT), .no, .no, .no, .no, .no, .no, .no]
  have hst := valP_lc (ρ := e1) (vs := [16]) (wl := wRng (wC (.int 9))) (g := wgName 16) (te := wTup (wCons (wVar 16) (wCons (wOp rAddI (wVar 16) (wC (.int 1))) wNil))) (fun (i : Nat) => PyData.int (i : Int)) (fun i => npr (i, i + 1)) (List.range 9) (by rw [List.length_range]; decide) (rng_v (n := 9) c_v (by decide)) (fun i hi Q q => g1_v (pair_v (var_v rfl) (add_v (a := i) (b := 1) (var_v rfl) c_v) _ q))
  rw [show (List.range 9).map (fun i => npr (i, i + 1)) = stepsL.map npr by unfold stepsL; rw [List.map_map]; rfl] at hst
  have hcl : Val (wCallB rTupD (wCons (wCall sp__law_closed 2 (wB (wC (.int 10)) (wB (wFz (wLc (wRng (wC (.int 9))) (wgName 16) wYes (wTup (wCons (wVar 16) (wCons (wOp rAddI (wVar 16) (wC (.int 1))) wNil))) [16])) wB0))) wNil)) e1 (.tuple ((tiesL 10 (chR 10)).map npr)) := tup1 (fun Q q => call2_v c_v (val_fz hst) ⟨10, stepsL, by decide, fun x hx => by have := mem_steps.mp hx; omega, by unfold stepsL; rw [List.length_map, List.length_range]; decide, rfl, by rw [steps_clo]; exact q⟩)
  refine seq_set (d := eF (chF 10)) (fld_v (n := 10) c_v hcl (marks_v (k := 10) (by decide) (by decide)) rfl rfl rfl) ?_
  let e2 : En := [.no, .st, x2, x3, x4, x5, x6, x7, x8, .val (eT oneT), .val (eF (chF 10)), .no, .no, .no, .no, .no, .no]
  show wSeq _ _ _ [.no, .st, x2, x3, x4, x5, x6, x7, x8, .val (eT oneT), .val (eF (chF 10)), .no, .no, .no, .no, .no, .no]
  refine seq_set (d := eT zedT) (quad_v c_v (trip_v c_v (trip_v c_v (var_v rfl) (var_v rfl)) (trip_v c_v (var_v rfl) (var_v rfl))) c_v c_v) ?_
  show wSeq _ _ _ [.no, .st, x2, x3, x4, x5, x6, x7, x8, .val (eT oneT), .val (eF (chF 10)), .val (eT zedT), .no, .no, .no, .no, .no]
  refine seq_set (d := eT wideT) (trip_v c_v (trip_v c_v (var_v rfl) c_v) (trip_v c_v c_v c_v)) ?_
  show wSeq _ _ _ [.no, .st, x2, x3, x4, x5, x6, x7, x8, .val (eT oneT), .val (eF (chF 10)), .val (eT zedT), .val (eT wideT), .no, .no, .no, .no]
  refine seq_set (d := eT deepT) (turn_v (turn_v (turn_v (turn_v (turn_v (turn_v (turn_v (a := .thing 5 1) (trip_v c_v c_v c_v)))))))) ?_
  show wSeq _ _ _ [.no, .st, x2, x3, x4, x5, x6, x7, x8, .val (eT oneT), .val (eF (chF 10)), .val (eT zedT), .val (eT wideT), .val (eT deepT), .no, .no, .no]
  refine setO_v (ds := [eTF (tenT, chF 10), eTF (zedT, zedF)]) (lst_v (cons_v (pair_v (trip_v (a := .str "row") (c := .int 10) c_v (var_v rfl) c_v) (var_v rfl)) (cons_v (pair_v (var_v rfl) (fld_v (F := zedF) (n := 4) (l := [(0, 1), (0, 3), (2, 3)]) (s := List.replicate 4 mk1) c_v (trip_v (pr_v (i := 0) (j := 1)) (pr_v (i := 0) (j := 3)) (pr_v (i := 2) (j := 3))) (marks_v (k := 4) (by decide) (by decide)) rfl ties_zed zed_s)) nil_v)) (by show 2 ≤ 1000; decide)) ?_
  show wSeq _ _ _ [.no, .st, x2, x3, x4, x5, x6, x7, x8, .val (eT oneT), .val (eF (chF 10)), .val (eT zedT), .val (eT wideT), .val (eT deepT), .lst [eTF (tenT, chF 10), eTF (zedT, zedF)], .no, .no]
  refine seq_app (ds := [eTF (tenT, chF 10), eTF (zedT, zedF)]) (d := eTF (deepT, pt (-5) 1)) rfl (pair_v (var_v rfl) (fld_v (F := pt (-5) 1) (n := 1) (l := []) (s := [(-5, 1)]) c_v (tup_v nil_v (Nat.zero_le _)) (one1_v (pair_v neg_v c_v)) rfl ff_ties rfl)) (by show 2 < 1000; decide) ?_
  show wSeq _ _ _ [.no, .st, x2, x3, x4, x5, x6, x7, x8, .val (eT oneT), .val (eF (chF 10)), .val (eT zedT), .val (eT wideT), .val (eT deepT), .lst [eTF (tenT, chF 10), eTF (zedT, zedF), eTF (deepT, pt (-5) 1)], .no, .no]
  refine setO_v (ds := [eTF (tenT, chF 10), eTF (zedT, zedF), eTF (deepT, pt (-5) 1), eTF (wideT, wideF), eTF (noneT, zF)]) (cat_v (xs := [eTF (tenT, chF 10), eTF (zedT, zedF), eTF (deepT, pt (-5) 1)]) (ys := [eTF (wideT, wideF), eTF (noneT, zF)]) (pk_v rfl) (val_fz (lst_v (cons_v (pair_v (var_v rfl) (fld_v (F := wideF) (n := 3) (l := [(0, 1), (0, 2), (1, 2)]) (s := List.replicate 3 mk1) c_v (trip_v (pr_v (i := 0) (j := 1)) (pr_v (i := 0) (j := 2)) (pr_v (i := 1) (j := 2))) (marks_v (k := 3) (by decide) (by decide)) rfl ties_wide rfl)) (cons_v (pair_v (trip_v (a := .str "row") (b := eT .nil) (c := .int 10) c_v (one1_v c_v) c_v) (fld_v (F := zF) (n := 0) (l := []) (s := []) c_v (tup_v nil_v (Nat.zero_le _)) (tup_v nil_v (Nat.zero_le _)) rfl rfl rfl)) nil_v)) (by show 2 ≤ 1000; decide))) (by show 3 + 2 ≤ 1000; decide)) ?_
  show wSeq _ _ _ [.no, .st, x2, x3, x4, x5, x6, x7, x8, .val (eT oneT), .val (eF (chF 10)), .val (eT zedT), .val (eT wideT), .val (eT deepT), .lst [eTF (tenT, chF 10), eTF (zedT, zedF), eTF (deepT, pt (-5) 1), eTF (wideT, wideF), eTF (noneT, zF)], .no, .no]
  refine seq_app (ds := [eTF (tenT, chF 10), eTF (zedT, zedF), eTF (deepT, pt (-5) 1), eTF (wideT, wideF), eTF (noneT, zF)]) (d := eTF (movT, pt 1000 1000)) rfl (pair_v (trip_v (a := .str "moved") (c := .int 2000) c_v (var_v rfl) c_v) (fld_v (F := pt 1000 1000) (n := 1) (l := []) (s := [(1000, 1000)]) c_v (tup_v nil_v (Nat.zero_le _)) (one1_v (pair_v c_v c_v)) rfl ff_ties rfl)) (by show 5 < 1000; decide) ?_
  show wSeq _ _ _ [.no, .st, x2, x3, x4, x5, x6, x7, x8, .val (eT oneT), .val (eF (chF 10)), .val (eT zedT), .val (eT wideT), .val (eT deepT), .lst [eTF (tenT, chF 10), eTF (zedT, zedF), eTF (deepT, pt (-5) 1), eTF (wideT, wideF), eTF (noneT, zF), eTF (movT, pt 1000 1000)], .no, .no]
  refine seq_set (d := eT chnT) (quad_v (b := eT sqT) c_v (fun Q q => var_v (d := eT zedT) rfl _ ⟨_, rfl, q⟩) c_v c_v) ?_
  show wSeq _ _ _ [.no, .st, x2, x3, x4, x5, x6, x7, x8, .val (eT oneT), .val (eF (chF 10)), .val (eT zedT), .val (eT wideT), .val (eT deepT), .lst [eTF (tenT, chF 10), eTF (zedT, zedF), eTF (deepT, pt (-5) 1), eTF (wideT, wideF), eTF (noneT, zF), eTF (movT, pt 1000 1000)], .val (eT chnT), .no]
  refine seq_app (ds := [eTF (tenT, chF 10), eTF (zedT, zedF), eTF (deepT, pt (-5) 1), eTF (wideT, wideF), eTF (noneT, zF), eTF (movT, pt 1000 1000)]) (d := eTF (chnT, chnF)) rfl (pair_v (var_v rfl) (fld_v (F := chnF) (n := 4) (l := [(0, 1), (0, 2), (0, 3), (1, 2), (1, 3), (2, 3)]) (s := List.replicate 4 mk1) c_v (tup_v (cons_v (pr_v (i := 0) (j := 1)) (cons_v (pr_v (i := 0) (j := 2)) (cons_v (pr_v (i := 0) (j := 3)) (cons_v (pr_v (i := 1) (j := 2)) (cons_v (pr_v (i := 1) (j := 3)) (cons_v (pr_v (i := 2) (j := 3)) nil_v)))))) (by show 6 ≤ 1000; decide)) (marks_v (k := 4) (by decide) (by decide)) rfl ties_chn chn_s)) (by show 6 < 1000; decide) ?_
  show wFrz _ _ _ [.no, .st, x2, x3, x4, x5, x6, x7, x8, .val (eT oneT), .val (eF (chF 10)), .val (eT zedT), .val (eT wideT), .val (eT deepT), .lst (lawL.map eTF), .val (eT chnT), .no]
  refine frz_v (ds := lawL.map eTF) rfl ?_
  let e3 : En := [.no, .st, x2, x3, x4, x5, x6, x7, x8, .val (eT oneT), .val (eF (chF 10)), .val (eT zedT), .val (eT wideT), .val (eT deepT), .val (.list (lawL.map eTF)), .val (eT chnT), .no]
  show wRet _ _ e3
  have hc := valP_lcf (ρ := e3) (vs := [3, 4]) (wl := wSeqI (wVar 14)) (g := wgTup 2 (wgCons (wgName 3) (wgCons (wgName 4) wgNil))) (tt := wNot (wTst (wCall sp__law_term_right 2 (wB (wVar 3) (wB (wVar 4) wB0))))) (te := wC (.int 1)) eTF (fun _ => false) (fun _ => .int 1) lawL (by decide) (seqI_v (d := .list (lawL.map eTF)) rfl (var_v rfl)) (fun x hx Q1 Q2 h1 h2 => g2_v (tst_if (b := false) (not_s fun Q q => call2_v (var_v rfl) (var_v rfl) ⟨x.1, x.2, law_good x hx, rfl, q⟩) h1 h2))
  rw [show (lawL.filter fun _ => false) = [] from rfl] at hc
  refine ret_v (eqD_v (val_fz hc) nil_l shaped_nl shaped_nl) ?_
  show E.rt n (.bool (PyData.eqv (.list []) (.list [])))
  rw [hr, eqv_nn]
theorem rd_law (n : Nat) (hn : n ≤ 13) : nSeq (nForL (wgName 2) (w_law (spT 3)) (rngD n)) (w_lawR (spT 3)) { nx := fun _ _ => False, rt := fun _ d => d = .bool true } 0 (.no :: .st :: List.replicate 15 .no) := by
  refine n_seq ?_
  show nForL _ _ (rngD n) _ 0 [.no, .st, .no, .no, .no, .no, .no, .no, .no, .no, .no, .no, .no, .no, .no, .no, .no]
  refine law_loop ?_ fun m x2 x3 x4 x5 x6 x7 x8 => law_rest rfl
  have : (rngD n).length = n := by unfold rngD; rw [List.length_map, List.length_range]
  rw [this]
  omega
end Qp
set_option maxHeartbeats 4000000
namespace Qp
open PySem PySem.Spec PyProof.Rows L2 Qd
/-! ### the defs' function objects -/
structure Fx (K : PySem.W.Frag) (mg : Str → Option Value) : Prop where
  F_is_integer : ∃ fd, FnP K "is_integer" s_is_integer (He.fAd K ("is_integer", none)) fd
  m_is_integer : mg "is_integer" = some (.ref (He.fAd K ("is_integer", none)))
  F_common : ∃ fd, FnP K "common" s_common (He.fAd K ("common", none)) fd
  m_common : mg "common" = some (.ref (He.fAd K ("common", none)))
  F_made : ∃ fd, FnP K "made" s_made (He.fAd K ("made", none)) fd
  m_made : mg "made" = some (.ref (He.fAd K ("made", none)))
  F_is_under : ∃ fd, FnP K "is_under" s_is_under (He.fAd K ("is_under", none)) fd
  m_is_under : mg "is_under" = some (.ref (He.fAd K ("is_under", none)))
  F_is_between : ∃ fd, FnP K "is_between" s_is_between (He.fAd K ("is_between", none)) fd
  m_is_between : mg "is_between" = some (.ref (He.fAd K ("is_between", none)))
  F_are_rising : ∃ fd, FnP K "are_rising" s_are_rising (He.fAd K ("are_rising", none)) fd
  m_are_rising : mg "are_rising" = some (.ref (He.fAd K ("are_rising", none)))
  F_is_pair_below : ∃ fd, FnP K "is_pair_below" s_is_pair_below (He.fAd K ("is_pair_below", none)) fd
  m_is_pair_below : mg "is_pair_below" = some (.ref (He.fAd K ("is_pair_below", none)))
  F_are_ties : ∃ fd, FnP K "are_ties" s_are_ties (He.fAd K ("are_ties", none)) fd
  m_are_ties : mg "are_ties" = some (.ref (He.fAd K ("are_ties", none)))
  F_ups_by : ∃ fd, FnP K "ups_by" s_ups_by (He.fAd K ("ups_by", none)) fd
  m_ups_by : mg "ups_by" = some (.ref (He.fAd K ("ups_by", none)))
  F_is_seen : ∃ fd, FnP K "is_seen" s_is_seen (He.fAd K ("is_seen", none)) fd
  m_is_seen : mg "is_seen" = some (.ref (He.fAd K ("is_seen", none)))
  F_need_field : ∃ fd, FnP K "need_field" s_need_field (He.fAd K ("need_field", none)) fd
  m_need_field : mg "need_field" = some (.ref (He.fAd K ("need_field", none)))
  F_ups_in : ∃ fd, FnP K "ups_in" s_ups_in (He.fAd K ("ups_in", none)) fd
  m_ups_in : mg "ups_in" = some (.ref (He.fAd K ("ups_in", none)))
  F_covers_by : ∃ fd, FnP K "covers_by" s_covers_by (He.fAd K ("covers_by", none)) fd
  m_covers_by : mg "covers_by" = some (.ref (He.fAd K ("covers_by", none)))
  F_is_spot : ∃ fd, FnP K "is_spot" s_is_spot (He.fAd K ("is_spot", none)) fd
  m_is_spot : mg "is_spot" = some (.ref (He.fAd K ("is_spot", none)))
  F_are_spots : ∃ fd, FnP K "are_spots" s_are_spots (He.fAd K ("are_spots", none)) fd
  m_are_spots : mg "are_spots" = some (.ref (He.fAd K ("are_spots", none)))
  F_is_own_form : ∃ fd, FnP K "is_own_form" s_is_own_form (He.fAd K ("is_own_form", none)) fd
  m_is_own_form : mg "is_own_form" = some (.ref (He.fAd K ("is_own_form", none)))
  F_is_form : ∃ fd, FnP K "is_form" s_is_form (He.fAd K ("is_form", none)) fd
  m_is_form : mg "is_form" = some (.ref (He.fAd K ("is_form", none)))
  F_places_in : ∃ fd, FnP K "places_in" s_places_in (He.fAd K ("places_in", none)) fd
  m_places_in : mg "places_in" = some (.ref (He.fAd K ("places_in", none)))
  F_paths_in : ∃ fd, FnP K "paths_in" s_paths_in (He.fAd K ("paths_in", none)) fd
  m_paths_in : mg "paths_in" = some (.ref (He.fAd K ("paths_in", none)))
  F_term_at : ∃ fd, FnP K "term_at" s_term_at (He.fAd K ("term_at", none)) fd
  m_term_at : mg "term_at" = some (.ref (He.fAd K ("term_at", none)))
  F_closed : ∃ fd, FnP K "closed" s_closed (He.fAd K ("closed", none)) fd
  m_closed : mg "closed" = some (.ref (He.fAd K ("closed", none)))
  F_laid : ∃ fd, FnP K "laid" s_laid (He.fAd K ("laid", none)) fd
  m_laid : mg "laid" = some (.ref (He.fAd K ("laid", none)))
  F_row_of : ∃ fd, FnP K "row_of" s_row_of (He.fAd K ("row_of", none)) fd
  m_row_of : mg "row_of" = some (.ref (He.fAd K ("row_of", none)))
  F_part_of : ∃ fd, FnP K "part_of" s_part_of (He.fAd K ("part_of", none)) fd
  m_part_of : mg "part_of" = some (.ref (He.fAd K ("part_of", none)))
  F_tied_of : ∃ fd, FnP K "tied_of" s_tied_of (He.fAd K ("tied_of", none)) fd
  m_tied_of : mg "tied_of" = some (.ref (He.fAd K ("tied_of", none)))
  F_single_of : ∃ fd, FnP K "single_of" s_single_of (He.fAd K ("single_of", none)) fd
  m_single_of : mg "single_of" = some (.ref (He.fAd K ("single_of", none)))
  F_by_word : ∃ fd, FnP K "by_word" s_by_word (He.fAd K ("by_word", none)) fd
  m_by_word : mg "by_word" = some (.ref (He.fAd K ("by_word", none)))
  F_is_good : ∃ fd, FnP K "is_good" s_is_good (He.fAd K ("is_good", none)) fd
  m_is_good : mg "is_good" = some (.ref (He.fAd K ("is_good", none)))
  F_field_in : ∃ fd, FnP K "field_in" s_field_in (He.fAd K ("field_in", none)) fd
  m_field_in : mg "field_in" = some (.ref (He.fAd K ("field_in", none)))
  F_need_term : ∃ fd, FnP K "need_term" s_need_term (He.fAd K ("need_term", none)) fd
  m_need_term : mg "need_term" = some (.ref (He.fAd K ("need_term", none)))
  F_field_of : ∃ fd, FnP K "field_of" s_field_of (He.fAd K ("field_of", none)) fd
  m_field_of : mg "field_of" = some (.ref (He.fAd K ("field_of", none)))
  F_kids_of : ∃ fd, FnP K "kids_of" s_kids_of (He.fAd K ("kids_of", none)) fd
  m_kids_of : mg "kids_of" = some (.ref (He.fAd K ("kids_of", none)))
  F_is_up_in : ∃ fd, FnP K "is_up_in" s_is_up_in (He.fAd K ("is_up_in", none)) fd
  m_is_up_in : mg "is_up_in" = some (.ref (He.fAd K ("is_up_in", none)))
  F_mean_in : ∃ fd, FnP K "mean_in" s_mean_in (He.fAd K ("mean_in", none)) fd
  m_mean_in : mg "mean_in" = some (.ref (He.fAd K ("mean_in", none)))
  F_lots_of : ∃ fd, FnP K "lots_of" s_lots_of (He.fAd K ("lots_of", none)) fd
  m_lots_of : mg "lots_of" = some (.ref (He.fAd K ("lots_of", none)))
  F_up_in : ∃ fd, FnP K "up_in" s_up_in (He.fAd K ("up_in", none)) fd
  m_up_in : mg "up_in" = some (.ref (He.fAd K ("up_in", none)))
  F_next_level : ∃ fd, FnP K "next_level" s_next_level (He.fAd K ("next_level", none)) fd
  m_next_level : mg "next_level" = some (.ref (He.fAd K ("next_level", none)))
  F_levels_in : ∃ fd, FnP K "levels_in" s_levels_in (He.fAd K ("levels_in", none)) fd
  m_levels_in : mg "levels_in" = some (.ref (He.fAd K ("levels_in", none)))
  F_table_by : ∃ fd, FnP K "table_by" s_table_by (He.fAd K ("table_by", none)) fd
  m_table_by : mg "table_by" = some (.ref (He.fAd K ("table_by", none)))
  F_best_in : ∃ fd, FnP K "best_in" s_best_in (He.fAd K ("best_in", none)) fd
  m_best_in : mg "best_in" = some (.ref (He.fAd K ("best_in", none)))
  F_best_table : ∃ fd, FnP K "best_table" s_best_table (He.fAd K ("best_table", none)) fd
  m_best_table : mg "best_table" = some (.ref (He.fAd K ("best_table", none)))
  F__law_closed : ∃ fd, FnP K "_law_closed" s__law_closed (He.fAd K ("_law_closed", none)) fd
  m__law_closed : mg "_law_closed" = some (.ref (He.fAd K ("_law_closed", none)))
  F__law_checked : ∃ fd, FnP K "_law_checked" s__law_checked (He.fAd K ("_law_checked", none)) fd
  m__law_checked : mg "_law_checked" = some (.ref (He.fAd K ("_law_checked", none)))
  F__law_two : ∃ fd, FnP K "_law_two" s__law_two (He.fAd K ("_law_two", none)) fd
  m__law_two : mg "_law_two" = some (.ref (He.fAd K ("_law_two", none)))
  F__law_one : ∃ fd, FnP K "_law_one" s__law_one (He.fAd K ("_law_one", none)) fd
  m__law_one : mg "_law_one" = some (.ref (He.fAd K ("_law_one", none)))
  F__law_put : ∃ fd, FnP K "_law_put" s__law_put (He.fAd K ("_law_put", none)) fd
  m__law_put : mg "_law_put" = some (.ref (He.fAd K ("_law_put", none)))
  F__law_kids : ∃ fd, FnP K "_law_kids" s__law_kids (He.fAd K ("_law_kids", none)) fd
  m__law_kids : mg "_law_kids" = some (.ref (He.fAd K ("_law_kids", none)))
  F__law_facts_right : ∃ fd, FnP K "_law_facts_right" s__law_facts_right (He.fAd K ("_law_facts_right", none)) fd
  m__law_facts_right : mg "_law_facts_right" = some (.ref (He.fAd K ("_law_facts_right", none)))
  F__law_term_right : ∃ fd, FnP K "_law_term_right" s__law_term_right (He.fAd K ("_law_term_right", none)) fd
  m__law_term_right : mg "_law_term_right" = some (.ref (He.fAd K ("_law_term_right", none)))
  F__law_mixed : ∃ fd, FnP K "_law_mixed" s__law_mixed (He.fAd K ("_law_mixed", none)) fd
  m__law_mixed : mg "_law_mixed" = some (.ref (He.fAd K ("_law_mixed", none)))
  F__law_begin : ∃ fd, FnP K "_law_begin" s__law_begin (He.fAd K ("_law_begin", none)) fd
  m__law_begin : mg "_law_begin" = some (.ref (He.fAd K ("_law_begin", none)))
  F__law_draw : ∃ fd, FnP K "_law_draw" s__law_draw (He.fAd K ("_law_draw", none)) fd
  m__law_draw : mg "_law_draw" = some (.ref (He.fAd K ("_law_draw", none)))
  F__law_of : ∃ fd, FnP K "_law_of" s__law_of (He.fAd K ("_law_of", none)) fd
  m__law_of : mg "_law_of" = some (.ref (He.fAd K ("_law_of", none)))
  F__law_term : ∃ fd, FnP K "_law_term" s__law_term (He.fAd K ("_law_term", none)) fd
  m__law_term : mg "_law_term" = some (.ref (He.fAd K ("_law_term", none)))
  F_law : ∃ fd, FnP K "law" s_law (He.fAd K ("law", none)) fd
  m_law : mg "law" = some (.ref (He.fAd K ("law", none)))
variable {P : Program} {w : World} {K : PySem.W.Frag} {mg : Str → Option Value} {base : Heap}
/-! ### all calls -/
structure Cx1 (P : Program) (w : World) (K : PySem.W.Frag) (mg : Str → Option Value) (base : Heap) (W : Wd) : Prop where
  C_is_integer : Cal P w K mg base W "is_integer" 1 1 sp_is_integer
  C_common : Cal P w K mg base W "common" 1 2 sp_common
  C_made : Cal P w K mg base W "made" 2 2 sp_made
  C_is_under : Cal P w K mg base W "is_under" 1 2 sp_is_under
  C_is_between : Cal P w K mg base W "is_between" 2 3 sp_is_between
  C_are_rising : Cal P w K mg base W "are_rising" 1 1 sp_are_rising
  C_is_pair_below : Cal P w K mg base W "is_pair_below" 3 2 sp_is_pair_below
  C_are_ties : Cal P w K mg base W "are_ties" 4 2 sp_are_ties
  C_ups_by : Cal P w K mg base W "ups_by" 1 2 sp_ups_by
  C_is_seen : Cal P w K mg base W "is_seen" 3 1 sp_is_seen
  C_need_field : Cal P w K mg base W "need_field" 5 1 sp_need_field
  C_ups_in : Cal P w K mg base W "ups_in" 2 1 sp_ups_in
  C_covers_by : Cal P w K mg base W "covers_by" 1 2 sp_covers_by
  C_is_spot : Cal P w K mg base W "is_spot" 3 1 sp_is_spot
  C_are_spots : Cal P w K mg base W "are_spots" 4 1 sp_are_spots
  C_is_own_form : Cal P w K mg base W "is_own_form" 5 1 sp_is_own_form
  C_is_form : Cal P w K mg base W "is_form" 6 1 sp_is_form
  C_places_in : Cal P w K mg base W "places_in" 1 1 sp_places_in
  C_paths_in : Cal P w K mg base W "paths_in" 7 1 sp_paths_in
  C_term_at : Cal P w K mg base W "term_at" 1 2 sp_term_at
  C_closed : Cal P w K mg base W "closed" 2 2 sp_closed
  C_laid : Cal P w K mg base W "laid" 1 3 sp_laid
  C_row_of : Cal P w K mg base W "row_of" 2 2 sp_row_of
  C_part_of : Cal P w K mg base W "part_of" 3 2 sp_part_of
  C_tied_of : Cal P w K mg base W "tied_of" 3 3 sp_tied_of
  C_single_of : Cal P w K mg base W "single_of" 4 2 sp_single_of
  C_by_word : Cal P w K mg base W "by_word" 5 2 sp_by_word
  C_is_good : Cal P w K mg base W "is_good" 4 1 sp_is_good
  C_field_in : Cal P w K mg base W "field_in" 8 1 sp_field_in
  C_need_term : Cal P w K mg base W "need_term" 9 1 sp_need_term
  C_field_of : Cal P w K mg base W "field_of" 9 1 sp_field_of
  C_kids_of : Cal P w K mg base W "kids_of" 10 1 sp_kids_of
  C_is_up_in : Cal P w K mg base W "is_up_in" 1 2 sp_is_up_in
  C_mean_in : Cal P w K mg base W "mean_in" 3 2 sp_mean_in
  C_lots_of : Cal P w K mg base W "lots_of" 1 1 sp_lots_of
  C_up_in : Cal P w K mg base W "up_in" 3 1 sp_up_in
  C_next_level : Cal P w K mg base W "next_level" 4 3 sp_next_level
  C_levels_in : Cal P w K mg base W "levels_in" 5 1 sp_levels_in
  C_table_by : Cal P w K mg base W "table_by" 1 1 sp_table_by
  C_best_in : Cal P w K mg base W "best_in" 6 1 sp_best_in
  C_best_table : Cal P w K mg base W "best_table" 7 1 sp_best_table
  C__law_closed : Cal P w K mg base W "_law_closed" 1 2 sp__law_closed
  C__law_checked : Cal P w K mg base W "_law_checked" 2 3 sp__law_checked
  C__law_two : Cal P w K mg base W "_law_two" 3 3 sp__law_two
  C__law_one : Cal P w K mg base W "_law_one" 4 2 sp__law_one
  C__law_put : Cal P w K mg base W "_law_put" 5 2 sp__law_put
  C__law_kids : Cal P w K mg base W "_law_kids" 1 1 sp__law_kids
  C__law_facts_right : Cal P w K mg base W "_law_facts_right" 10 4 sp__law_facts_right
  C__law_term_right : CalG P w K mg base W "_law_term_right" 11 2 sp__law_term_right
theorem all_ok (T : Tx w K mg) (X : Fx K mg) {c tb : Addr} {W : Wd} (hc : ∀ fd, FnP K "field_in" s_field_in (He.fAd K ("field_in", none)) fd → FunDc K "field_in" "field_in" (defArgs s_field_in) (defBody s_field_in) (defScope s_field_in) (He.fAd K ("field_in", none)) fd c) (LW : LamW W tb "field_in.<locals>.<lambda>") (TB : LamX.TabB base mg c tb) : Cx1 P w K mg base W := by
  obtain ⟨fd_is_integer, F_is_integer⟩ := X.F_is_integer
  have C_is_integer := ok_is_integer (P := P) (base := base) (W := W) T F_is_integer X.m_is_integer  rd_is_integer
  obtain ⟨fd_common, F_common⟩ := X.F_common
  have C_common := ok_common (P := P) (base := base) (W := W) T F_common X.m_common  rd_common
  obtain ⟨fd_made, F_made⟩ := X.F_made
  have C_made := ok_made (P := P) (base := base) (W := W) T F_made X.m_made C_common rd_made
  obtain ⟨fd_is_under, F_is_under⟩ := X.F_is_under
  have C_is_under := ok_is_under (P := P) (base := base) (W := W) T F_is_under X.m_is_under  rd_is_under
  obtain ⟨fd_is_between, F_is_between⟩ := X.F_is_between
  have C_is_between := ok_is_between (P := P) (base := base) (W := W) T F_is_between X.m_is_between C_is_integer rd_is_between
  obtain ⟨fd_are_rising, F_are_rising⟩ := X.F_are_rising
  have C_are_rising := ok_are_rising (P := P) (base := base) (W := W) T F_are_rising X.m_are_rising  rd_are_rising
  obtain ⟨fd_is_pair_below, F_is_pair_below⟩ := X.F_is_pair_below
  have C_is_pair_below := ok_is_pair_below (P := P) (base := base) (W := W) T F_is_pair_below X.m_is_pair_below C_is_between rd_is_pair_below
  obtain ⟨fd_are_ties, F_are_ties⟩ := X.F_are_ties
  have C_are_ties := ok_are_ties (P := P) (base := base) (W := W) T F_are_ties X.m_are_ties C_is_pair_below C_are_rising rd_are_ties
  obtain ⟨fd_ups_by, F_ups_by⟩ := X.F_ups_by
  have C_ups_by := ok_ups_by (P := P) (base := base) (W := W) T F_ups_by X.m_ups_by  rd_ups_by
  obtain ⟨fd_is_seen, F_is_seen⟩ := X.F_is_seen
  have C_is_seen := ok_is_seen (P := P) (base := base) (W := W) T F_is_seen X.m_is_seen C_is_between rd_is_seen
  obtain ⟨fd_need_field, F_need_field⟩ := X.F_need_field
  have C_need_field := ok_need_field (P := P) (base := base) (W := W) T F_need_field X.m_need_field C_is_between C_are_ties C_ups_by C_is_seen rd_need_field
  obtain ⟨fd_ups_in, F_ups_in⟩ := X.F_ups_in
  have C_ups_in := ok_ups_in (P := P) (base := base) (W := W) T F_ups_in X.m_ups_in C_ups_by rd_ups_in
  obtain ⟨fd_covers_by, F_covers_by⟩ := X.F_covers_by
  have C_covers_by := ok_covers_by (P := P) (base := base) (W := W) T F_covers_by X.m_covers_by  rd_covers_by
  obtain ⟨fd_is_spot, F_is_spot⟩ := X.F_is_spot
  have C_is_spot := ok_is_spot (P := P) (base := base) (W := W) T F_is_spot X.m_is_spot C_is_between rd_is_spot
  obtain ⟨fd_are_spots, F_are_spots⟩ := X.F_are_spots
  have C_are_spots := ok_are_spots (P := P) (base := base) (W := W) T F_are_spots X.m_are_spots C_are_rising C_is_spot rd_are_spots
  obtain ⟨fd_is_own_form, F_is_own_form⟩ := X.F_is_own_form
  have C_is_own_form := ok_is_own_form (P := P) (base := base) (W := W) T F_is_own_form X.m_is_own_form C_is_seen C_is_between C_is_spot C_are_spots rd_is_own_form
  obtain ⟨fd_is_form, F_is_form⟩ := X.F_is_form
  have C_is_form := ok_is_form (P := P) (base := base) (W := W) T F_is_form X.m_is_form C_is_own_form rd_is_form
  obtain ⟨fd_places_in, F_places_in⟩ := X.F_places_in
  have C_places_in := ok_places_in (P := P) (base := base) (W := W) T F_places_in X.m_places_in  rd_places_in
  obtain ⟨fd_paths_in, F_paths_in⟩ := X.F_paths_in
  have C_paths_in := ok_paths_in (P := P) (base := base) (W := W) T F_paths_in X.m_paths_in C_is_form C_places_in rd_paths_in
  obtain ⟨fd_term_at, F_term_at⟩ := X.F_term_at
  have C_term_at := ok_term_at (P := P) (base := base) (W := W) T F_term_at X.m_term_at  rd_term_at
  obtain ⟨fd_closed, F_closed⟩ := X.F_closed
  have C_closed := ok_closed (P := P) (base := base) (W := W) T F_closed X.m_closed C_ups_by rd_closed
  obtain ⟨fd_laid, F_laid⟩ := X.F_laid
  have C_laid := ok_laid (P := P) (base := base) (W := W) T F_laid X.m_laid  rd_laid
  obtain ⟨fd_row_of, F_row_of⟩ := X.F_row_of
  have C_row_of := ok_row_of (P := P) (base := base) (W := W) T F_row_of X.m_row_of C_laid rd_row_of
  obtain ⟨fd_part_of, F_part_of⟩ := X.F_part_of
  have C_part_of := ok_part_of (P := P) (base := base) (W := W) T F_part_of X.m_part_of C_covers_by C_ups_by C_closed rd_part_of
  obtain ⟨fd_tied_of, F_tied_of⟩ := X.F_tied_of
  have C_tied_of := ok_tied_of (P := P) (base := base) (W := W) T F_tied_of X.m_tied_of C_closed rd_tied_of
  obtain ⟨fd_single_of, F_single_of⟩ := X.F_single_of
  have C_single_of := ok_single_of (P := P) (base := base) (W := W) T F_single_of X.m_single_of C_row_of C_tied_of C_part_of rd_single_of
  obtain ⟨fd_by_word, F_by_word⟩ := X.F_by_word
  have C_by_word := ok_by_word (P := P) (base := base) (W := W) T F_by_word X.m_by_word C_laid C_single_of rd_by_word
  obtain ⟨fd_is_good, F_is_good⟩ := X.F_is_good
  have C_is_good := ok_is_good (P := P) (base := base) (W := W) T F_is_good X.m_is_good C_is_seen rd_is_good
  obtain ⟨fd_field_in, F_field_in⟩ := X.F_field_in
  have C_field_in := ok_field_in (P := P) (base := base) (W := W) T (hc _ F_field_in) X.m_field_in LW TB C_paths_in C_term_at C_by_word C_places_in C_is_good rd_field_in
  obtain ⟨fd_need_term, F_need_term⟩ := X.F_need_term
  have C_need_term := ok_need_term (P := P) (base := base) (W := W) T F_need_term X.m_need_term C_field_in rd_need_term
  obtain ⟨fd_field_of, F_field_of⟩ := X.F_field_of
  have C_field_of := ok_field_of (P := P) (base := base) (W := W) T F_field_of X.m_field_of C_field_in rd_field_of
  obtain ⟨fd_kids_of, F_kids_of⟩ := X.F_kids_of
  have C_kids_of := ok_kids_of (P := P) (base := base) (W := W) T F_kids_of X.m_kids_of C_need_term C_places_in rd_kids_of
  obtain ⟨fd_is_up_in, F_is_up_in⟩ := X.F_is_up_in
  have C_is_up_in := ok_is_up_in (P := P) (base := base) (W := W) T F_is_up_in X.m_is_up_in  rd_is_up_in
  obtain ⟨fd_mean_in, F_mean_in⟩ := X.F_mean_in
  have C_mean_in := ok_mean_in (P := P) (base := base) (W := W) T F_mean_in X.m_mean_in C_made rd_mean_in
  obtain ⟨fd_lots_of, F_lots_of⟩ := X.F_lots_of
  have C_lots_of := ok_lots_of (P := P) (base := base) (W := W) T F_lots_of X.m_lots_of  rd_lots_of
  obtain ⟨fd_up_in, F_up_in⟩ := X.F_up_in
  have C_up_in := ok_up_in (P := P) (base := base) (W := W) T F_up_in X.m_up_in C_ups_in C_is_up_in C_lots_of rd_up_in
  obtain ⟨fd_next_level, F_next_level⟩ := X.F_next_level
  have C_next_level := ok_next_level (P := P) (base := base) (W := W) T F_next_level X.m_next_level C_mean_in C_is_under rd_next_level
  obtain ⟨fd_levels_in, F_levels_in⟩ := X.F_levels_in
  have C_levels_in := ok_levels_in (P := P) (base := base) (W := W) T F_levels_in X.m_levels_in C_up_in C_next_level rd_levels_in
  obtain ⟨fd_table_by, F_table_by⟩ := X.F_table_by
  have C_table_by := ok_table_by (P := P) (base := base) (W := W) T F_table_by X.m_table_by  rd_table_by
  obtain ⟨fd_best_in, F_best_in⟩ := X.F_best_in
  have C_best_in := ok_best_in (P := P) (base := base) (W := W) T F_best_in X.m_best_in C_table_by C_levels_in rd_best_in
  obtain ⟨fd_best_table, F_best_table⟩ := X.F_best_table
  have C_best_table := ok_best_table (P := P) (base := base) (W := W) T F_best_table X.m_best_table C_best_in C_need_field rd_best_table
  obtain ⟨fd__law_closed, F__law_closed⟩ := X.F__law_closed
  have C__law_closed := ok__law_closed (P := P) (base := base) (W := W) T F__law_closed X.m__law_closed  rd__law_closed
  obtain ⟨fd__law_checked, F__law_checked⟩ := X.F__law_checked
  have C__law_checked := ok__law_checked (P := P) (base := base) (W := W) T F__law_checked X.m__law_checked C__law_closed rd__law_checked
  obtain ⟨fd__law_two, F__law_two⟩ := X.F__law_two
  have C__law_two := ok__law_two (P := P) (base := base) (W := W) T F__law_two X.m__law_two C__law_checked rd__law_two
  obtain ⟨fd__law_one, F__law_one⟩ := X.F__law_one
  have C__law_one := ok__law_one (P := P) (base := base) (W := W) T F__law_one X.m__law_one C__law_checked C__law_two rd__law_one
  obtain ⟨fd__law_put, F__law_put⟩ := X.F__law_put
  have C__law_put := ok__law_put (P := P) (base := base) (W := W) T F__law_put X.m__law_put C__law_two C__law_one rd__law_put
  obtain ⟨fd__law_kids, F__law_kids⟩ := X.F__law_kids
  have C__law_kids := ok__law_kids (P := P) (base := base) (W := W) T F__law_kids X.m__law_kids  rd__law_kids
  obtain ⟨fd__law_facts_right, F__law_facts_right⟩ := X.F__law_facts_right
  have C__law_facts_right := ok__law_facts_right (P := P) (base := base) (W := W) T F__law_facts_right X.m__law_facts_right C_best_table C__law_two C_field_of rd__law_facts_right
  obtain ⟨fd__law_term_right, F__law_term_right⟩ := X.F__law_term_right
  have C__law_term_right := ok__law_term_right (P := P) (base := base) (W := W) T F__law_term_right X.m__law_term_right C_need_field C_field_of C_kids_of C_need_term C__law_kids rd__law_term_right
  exact ⟨C_is_integer, C_common, C_made, C_is_under, C_is_between, C_are_rising, C_is_pair_below, C_are_ties, C_ups_by, C_is_seen, C_need_field, C_ups_in, C_covers_by, C_is_spot, C_are_spots, C_is_own_form, C_is_form, C_places_in, C_paths_in, C_term_at, C_closed, C_laid, C_row_of, C_part_of, C_tied_of, C_single_of, C_by_word, C_is_good, C_field_in, C_need_term, C_field_of, C_kids_of, C_is_up_in, C_mean_in, C_lots_of, C_up_in, C_next_level, C_levels_in, C_table_by, C_best_in, C_best_table, C__law_closed, C__law_checked, C__law_two, C__law_one, C__law_put, C__law_kids, C__law_facts_right, C__law_term_right⟩
end Qp
set_option maxHeartbeats 4000000
namespace Qp
open PySem PySem.Spec PyProof.Rows L2 Qd
variable {P : Program} {w : World} {K : PySem.W.Frag} {mg : Str → Option Value} {base : Heap}
/-! ### the draws -/
theorem c_draw (T : Tx w K mg) (X : Fx K mg) (p : StP) : CalN P w K mg base p "_law_draw" 2 2 sp__law_draw := by
  obtain ⟨fd, F⟩ := X.F__law_draw
  obtain ⟨fdM, FM⟩ := X.F__law_mixed
  exact ⟨_, fd, ["_law_state", "_law_many"], ok_draw T F FM X.m__law_mixed, X.m__law_draw, F.kp, F.bindsN fun _ _ _ _ _ _ us hl => match us, hl with | [_, _], _ => rfl⟩
theorem c_of (T : Tx w K mg) (X : Fx K mg) (p : StP) : CalN P w K mg base p "_law_of" 3 2 sp__law_of := by
  obtain ⟨fd, F⟩ := X.F__law_of
  exact ok__law_of T F X.m__law_of (c_draw T X p) rd__law_of
theorem c_term0 (X : Fx K mg) (p : StP) : CalN P w K mg base p "_law_term" 5 2 (fun _ _ _ => False) := by
  obtain ⟨fd, F⟩ := X.F__law_term
  refine ⟨_, fd, ["_law_state", "_law_deep"], ⟨fun vs H Q E h => ?_, fun A outer s H args us vs Q E hr he hb hv h => ?_⟩, X.m__law_term, F.kp, F.bindsN fun _ _ _ _ _ _ us hl => match us, hl with | [_, _], _ => rfl⟩
  · obtain ⟨n, F', bs, P', hl, g, ps', h, k'⟩ := h
    exact h.elim
  · obtain ⟨n, F', bs, P', hl, g, ps', h, k'⟩ := h
    exact h.elim
theorem c_term (T : Tx w K mg) (X : Fx K mg) (p : StP) (Cp : ∀ n, Cal P w K mg base (Wp p n) "_law_put" 5 2 sp__law_put) : CalN P w K mg base p "_law_term" 9 2 (spT 3) := by
  obtain ⟨fd, F⟩ := X.F__law_term
  have c0 := ok__law_term (P := P) (base := base) (kk := 5) (sp' := spT 0) T (by omega) F X.m__law_term (c_draw T X p) (c_of T X p) Cp (c_term0 X p) (rd__law_term (D := 0) fun d n P hd => absurd hd (by omega))
  have c1 := ok__law_term (P := P) (base := base) (kk := 6) (sp' := spT 1) T (by omega) F X.m__law_term (c_draw T X p) (c_of T X p) Cp c0 (rd__law_term (sub_spT 0))
  have c2 := ok__law_term (P := P) (base := base) (kk := 7) (sp' := spT 2) T (by omega) F X.m__law_term (c_draw T X p) (c_of T X p) Cp c1 (rd__law_term (sub_spT 1))
  exact ok__law_term (P := P) (base := base) (kk := 8) (sp' := spT 3) T (by omega) F X.m__law_term (c_draw T X p) (c_of T X p) Cp c2 (rd__law_term (sub_spT 2))
abbrev lamQ : Str := "field_in.<locals>.<lambda>"
theorem law_fn (T : Tx w K mg) (X : Fx K mg) {c tb : Addr} (hc : ∀ fd, FnP K "field_in" s_field_in (He.fAd K ("field_in", none)) fd → FunDc K "field_in" "field_in" (defArgs s_field_in) (defBody s_field_in) (defScope s_field_in) (He.fAd K ("field_in", none)) fd c) (TB : LamX.TabB base mg c tb)
    {fd : FuncData} (F : FnP K "law" s_law (He.fAd K ("law", none)) fd) : FnOkG P w K mg base CX0 12 (He.fAd K ("law", none)) fd ["_law_script"] (spLaw K tb) := by
  obtain ⟨fdB, FB⟩ := X.F__law_begin
  have all : ∀ (d cl lf : Addr) (n : Int), Cx1 P w K mg base (Wp ⟨tb, d, cl, lf, lamQ⟩ n) := fun d cl lf n => all_ok T X hc (wn_lam tb d cl lf lamQ n) TB
  exact ok_law (q := lamQ) (sp := spT 3) T F FB X.m__law_begin (fun d cl lf => c_term T X _ fun n => (all d cl lf n).C__law_put) (fun d cl lf n => (all d cl lf n).C__law_facts_right) (fun d cl lf n => (all d cl lf n).C__law_term_right) (fun d cl lf n => (all d cl lf n).C__law_closed) rd_law
end Qp
set_option maxHeartbeats 0
namespace Qp
open PySem PySem.Spec PyProof.Rows L2 Qd
variable {P : Program} {w : World} {K : PySem.W.Frag} {mg : Str → Option Value} {base : Heap}
/-! ### the head's facts -/
theorem lens_mem {z : Str} {i : Int} (h : lensD z = some i) : (z, He.Dv.int i) ∈ lens := by
  unfold lensD at h
  unfold lens
  repeat' split at h
  all_goals first | (cases h; done) | (cases h; rename_i e; subst e; simp)
section
variable {h : Heap} (X : K.In h) (G : h.Ns mainGlobals mg) (c : He.SaysX fa fn ts tf ex w h K)
include X G c
theorem ex_parts : He.valsB K (He.ga K "LENGTHS") lens = true ∧ He.tupB K "LEAVES" [.str "thing", .str "none"] = true ∧ He.tupB K "DOUBLE" [.str "beside", .str "below"] = true := by
  have e := c.more
  unfold ex at e
  rw [Bool.and_eq_true, Bool.and_eq_true] at e
  exact e
theorem tx_lens : LensOk K w mg := by
  obtain ⟨es, n, D⟩ := c.t.tab 0 (t := (fun K => He.ga K "LENGTHS", ["thing", "none", "beside", "below", "row", "turned", "moved", "times", "tied", "only"])) rfl
  refine ⟨_, es, n, He.glo_ok X G (c.t.d.fact 94 (f := .glo "LENGTHS") rfl), D, fun z i hz => ?_⟩
  exact He.valsB_ok (ex_parts X G c).1 (lens_mem hz)
def tx_of : Tx w K mg where
  aL := He.ga K "LEAVES"
  aD := He.ga K "DOUBLE"
  g_LEAVES := He.glo_ok X G (c.t.d.fact 92 (f := .glo "LEAVES") rfl)
  t_LEAVES := fun H => He.tupB_ok (ex_parts X G c).2.1 H
  g_DOUBLE := He.glo_ok X G (c.t.d.fact 93 (f := .glo "DOUBLE") rfl)
  t_DOUBLE := fun H => He.tupB_ok (ex_parts X G c).2.2 H
  l_LENGTHS := tx_lens X G c
  n_isinstance := He.free_ok X G (c.t.d.fact 55 (f := .free "isinstance") rfl)
  n_int := He.free_ok X G (c.t.d.fact 56 (f := .free "int") rfl)
  n_bool := He.free_ok X G (c.t.d.fact 57 (f := .free "bool") rfl)
  n_tuple := He.free_ok X G (c.t.d.fact 58 (f := .free "tuple") rfl)
  n_str := He.free_ok X G (c.t.d.fact 59 (f := .free "str") rfl)
  n_abs := He.free_ok X G (c.t.d.fact 60 (f := .free "abs") rfl)
  n_all := He.free_ok X G (c.t.d.fact 61 (f := .free "all") rfl)
  n_any := He.free_ok X G (c.t.d.fact 62 (f := .free "any") rfl)
  n_zip := He.free_ok X G (c.t.d.fact 63 (f := .free "zip") rfl)
  n_len := He.free_ok X G (c.t.d.fact 64 (f := .free "len") rfl)
  n_range := He.free_ok X G (c.t.d.fact 65 (f := .free "range") rfl)
  n_sorted := He.free_ok X G (c.t.d.fact 66 (f := .free "sorted") rfl)
  n_list := He.free_ok X G (c.t.d.fact 67 (f := .free "list") rfl)
  n_enumerate := He.free_ok X G (c.t.d.fact 68 (f := .free "enumerate") rfl)
  n_max := He.free_ok X G (c.t.d.fact 69 (f := .free "max") rfl)
  n_min := He.free_ok X G (c.t.d.fact 70 (f := .free "min") rfl)
  n_sum := He.free_ok X G (c.t.d.fact 71 (f := .free "sum") rfl)
  n_dict := He.free_ok X G (c.t.d.fact 72 (f := .free "dict") rfl)
  n_repr := He.free_ok X G (c.t.d.fact 73 (f := .free "repr") rfl)
  i_MOST_THINGS := He.int_ok X G (c.t.d.fact 74 (f := .int "MOST_THINGS" 10) rfl)
  i_MOST_TIES := He.int_ok X G (c.t.d.fact 75 (f := .int "MOST_TIES" 45) rfl)
  i_MOST_WORTH := He.int_ok X G (c.t.d.fact 76 (f := .int "MOST_WORTH" 1000) rfl)
  i_MOST_WEIGHT := He.int_ok X G (c.t.d.fact 77 (f := .int "MOST_WEIGHT" 1000) rfl)
  i_MOST_WORDS := He.int_ok X G (c.t.d.fact 78 (f := .int "MOST_WORDS" 20) rfl)
  i_MOST_DEEP := He.int_ok X G (c.t.d.fact 79 (f := .int "MOST_DEEP" 8) rfl)
  i_MOST_MOVE := He.int_ok X G (c.t.d.fact 80 (f := .int "MOST_MOVE" 2000) rfl)
  i_MOST_TIMES := He.int_ok X G (c.t.d.fact 81 (f := .int "MOST_TIMES" 1000) rfl)
  s_THING := He.str_ok X G (c.t.d.fact 82 (f := .str "THING" "thing") rfl)
  s_NONE := He.str_ok X G (c.t.d.fact 83 (f := .str "NONE" "none") rfl)
  s_BESIDE := He.str_ok X G (c.t.d.fact 84 (f := .str "BESIDE" "beside") rfl)
  s_BELOW := He.str_ok X G (c.t.d.fact 85 (f := .str "BELOW" "below") rfl)
  s_ROW := He.str_ok X G (c.t.d.fact 86 (f := .str "ROW" "row") rfl)
  s_TURNED := He.str_ok X G (c.t.d.fact 87 (f := .str "TURNED" "turned") rfl)
  s_MOVED := He.str_ok X G (c.t.d.fact 88 (f := .str "MOVED" "moved") rfl)
  s_TIMES := He.str_ok X G (c.t.d.fact 89 (f := .str "TIMES" "times") rfl)
  s_TIED := He.str_ok X G (c.t.d.fact 90 (f := .str "TIED" "tied") rfl)
  s_ONLY := He.str_ok X G (c.t.d.fact 91 (f := .str "ONLY" "only") rfl)
theorem fx_of : Fx K mg where
  F_is_integer := c.t.d.def_ 0 (d := d_is_integer) rfl
  m_is_integer := He.glo_ok X G (c.t.d.fact 0 (f := .glo "is_integer") rfl)
  F_common := c.t.d.def_ 1 (d := d_common) rfl
  m_common := He.glo_ok X G (c.t.d.fact 1 (f := .glo "common") rfl)
  F_made := c.t.d.def_ 2 (d := d_made) rfl
  m_made := He.glo_ok X G (c.t.d.fact 2 (f := .glo "made") rfl)
  F_is_under := c.t.d.def_ 3 (d := d_is_under) rfl
  m_is_under := He.glo_ok X G (c.t.d.fact 3 (f := .glo "is_under") rfl)
  F_is_between := c.t.d.def_ 4 (d := d_is_between) rfl
  m_is_between := He.glo_ok X G (c.t.d.fact 4 (f := .glo "is_between") rfl)
  F_are_rising := c.t.d.def_ 5 (d := d_are_rising) rfl
  m_are_rising := He.glo_ok X G (c.t.d.fact 5 (f := .glo "are_rising") rfl)
  F_is_pair_below := c.t.d.def_ 6 (d := d_is_pair_below) rfl
  m_is_pair_below := He.glo_ok X G (c.t.d.fact 6 (f := .glo "is_pair_below") rfl)
  F_are_ties := c.t.d.def_ 7 (d := d_are_ties) rfl
  m_are_ties := He.glo_ok X G (c.t.d.fact 7 (f := .glo "are_ties") rfl)
  F_ups_by := c.t.d.def_ 8 (d := d_ups_by) rfl
  m_ups_by := He.glo_ok X G (c.t.d.fact 8 (f := .glo "ups_by") rfl)
  F_is_seen := c.t.d.def_ 9 (d := d_is_seen) rfl
  m_is_seen := He.glo_ok X G (c.t.d.fact 9 (f := .glo "is_seen") rfl)
  F_need_field := c.t.d.def_ 10 (d := d_need_field) rfl
  m_need_field := He.glo_ok X G (c.t.d.fact 10 (f := .glo "need_field") rfl)
  F_ups_in := c.t.d.def_ 11 (d := d_ups_in) rfl
  m_ups_in := He.glo_ok X G (c.t.d.fact 11 (f := .glo "ups_in") rfl)
  F_covers_by := c.t.d.def_ 12 (d := d_covers_by) rfl
  m_covers_by := He.glo_ok X G (c.t.d.fact 12 (f := .glo "covers_by") rfl)
  F_is_spot := c.t.d.def_ 13 (d := d_is_spot) rfl
  m_is_spot := He.glo_ok X G (c.t.d.fact 13 (f := .glo "is_spot") rfl)
  F_are_spots := c.t.d.def_ 14 (d := d_are_spots) rfl
  m_are_spots := He.glo_ok X G (c.t.d.fact 14 (f := .glo "are_spots") rfl)
  F_is_own_form := c.t.d.def_ 15 (d := d_is_own_form) rfl
  m_is_own_form := He.glo_ok X G (c.t.d.fact 15 (f := .glo "is_own_form") rfl)
  F_is_form := c.t.d.def_ 16 (d := d_is_form) rfl
  m_is_form := He.glo_ok X G (c.t.d.fact 16 (f := .glo "is_form") rfl)
  F_places_in := c.t.d.def_ 17 (d := d_places_in) rfl
  m_places_in := He.glo_ok X G (c.t.d.fact 17 (f := .glo "places_in") rfl)
  F_paths_in := c.t.d.def_ 18 (d := d_paths_in) rfl
  m_paths_in := He.glo_ok X G (c.t.d.fact 18 (f := .glo "paths_in") rfl)
  F_term_at := c.t.d.def_ 19 (d := d_term_at) rfl
  m_term_at := He.glo_ok X G (c.t.d.fact 19 (f := .glo "term_at") rfl)
  F_closed := c.t.d.def_ 20 (d := d_closed) rfl
  m_closed := He.glo_ok X G (c.t.d.fact 20 (f := .glo "closed") rfl)
  F_laid := c.t.d.def_ 21 (d := d_laid) rfl
  m_laid := He.glo_ok X G (c.t.d.fact 21 (f := .glo "laid") rfl)
  F_row_of := c.t.d.def_ 22 (d := d_row_of) rfl
  m_row_of := He.glo_ok X G (c.t.d.fact 22 (f := .glo "row_of") rfl)
  F_part_of := c.t.d.def_ 23 (d := d_part_of) rfl
  m_part_of := He.glo_ok X G (c.t.d.fact 23 (f := .glo "part_of") rfl)
  F_tied_of := c.t.d.def_ 24 (d := d_tied_of) rfl
  m_tied_of := He.glo_ok X G (c.t.d.fact 24 (f := .glo "tied_of") rfl)
  F_single_of := c.t.d.def_ 25 (d := d_single_of) rfl
  m_single_of := He.glo_ok X G (c.t.d.fact 25 (f := .glo "single_of") rfl)
  F_by_word := c.t.d.def_ 26 (d := d_by_word) rfl
  m_by_word := He.glo_ok X G (c.t.d.fact 26 (f := .glo "by_word") rfl)
  F_is_good := c.t.d.def_ 27 (d := d_is_good) rfl
  m_is_good := He.glo_ok X G (c.t.d.fact 27 (f := .glo "is_good") rfl)
  F_field_in := c.t.d.def_ 28 (d := d_field_in) rfl
  m_field_in := He.glo_ok X G (c.t.d.fact 28 (f := .glo "field_in") rfl)
  F_need_term := c.t.d.def_ 29 (d := d_need_term) rfl
  m_need_term := He.glo_ok X G (c.t.d.fact 29 (f := .glo "need_term") rfl)
  F_field_of := c.t.d.def_ 30 (d := d_field_of) rfl
  m_field_of := He.glo_ok X G (c.t.d.fact 30 (f := .glo "field_of") rfl)
  F_kids_of := c.t.d.def_ 31 (d := d_kids_of) rfl
  m_kids_of := He.glo_ok X G (c.t.d.fact 31 (f := .glo "kids_of") rfl)
  F_is_up_in := c.t.d.def_ 32 (d := d_is_up_in) rfl
  m_is_up_in := He.glo_ok X G (c.t.d.fact 32 (f := .glo "is_up_in") rfl)
  F_mean_in := c.t.d.def_ 33 (d := d_mean_in) rfl
  m_mean_in := He.glo_ok X G (c.t.d.fact 33 (f := .glo "mean_in") rfl)
  F_lots_of := c.t.d.def_ 34 (d := d_lots_of) rfl
  m_lots_of := He.glo_ok X G (c.t.d.fact 34 (f := .glo "lots_of") rfl)
  F_up_in := c.t.d.def_ 35 (d := d_up_in) rfl
  m_up_in := He.glo_ok X G (c.t.d.fact 35 (f := .glo "up_in") rfl)
  F_next_level := c.t.d.def_ 36 (d := d_next_level) rfl
  m_next_level := He.glo_ok X G (c.t.d.fact 36 (f := .glo "next_level") rfl)
  F_levels_in := c.t.d.def_ 37 (d := d_levels_in) rfl
  m_levels_in := He.glo_ok X G (c.t.d.fact 37 (f := .glo "levels_in") rfl)
  F_table_by := c.t.d.def_ 38 (d := d_table_by) rfl
  m_table_by := He.glo_ok X G (c.t.d.fact 38 (f := .glo "table_by") rfl)
  F_best_in := c.t.d.def_ 39 (d := d_best_in) rfl
  m_best_in := He.glo_ok X G (c.t.d.fact 39 (f := .glo "best_in") rfl)
  F_best_table := c.t.d.def_ 40 (d := d_best_table) rfl
  m_best_table := He.glo_ok X G (c.t.d.fact 40 (f := .glo "best_table") rfl)
  F__law_closed := c.t.d.def_ 45 (d := d__law_closed) rfl
  m__law_closed := He.glo_ok X G (c.t.d.fact 45 (f := .glo "_law_closed") rfl)
  F__law_checked := c.t.d.def_ 46 (d := d__law_checked) rfl
  m__law_checked := He.glo_ok X G (c.t.d.fact 46 (f := .glo "_law_checked") rfl)
  F__law_two := c.t.d.def_ 47 (d := d__law_two) rfl
  m__law_two := He.glo_ok X G (c.t.d.fact 47 (f := .glo "_law_two") rfl)
  F__law_one := c.t.d.def_ 48 (d := d__law_one) rfl
  m__law_one := He.glo_ok X G (c.t.d.fact 48 (f := .glo "_law_one") rfl)
  F__law_put := c.t.d.def_ 49 (d := d__law_put) rfl
  m__law_put := He.glo_ok X G (c.t.d.fact 49 (f := .glo "_law_put") rfl)
  F__law_kids := c.t.d.def_ 51 (d := d__law_kids) rfl
  m__law_kids := He.glo_ok X G (c.t.d.fact 51 (f := .glo "_law_kids") rfl)
  F__law_facts_right := c.t.d.def_ 52 (d := d__law_facts_right) rfl
  m__law_facts_right := He.glo_ok X G (c.t.d.fact 52 (f := .glo "_law_facts_right") rfl)
  F__law_term_right := c.t.d.def_ 53 (d := d__law_term_right) rfl
  m__law_term_right := He.glo_ok X G (c.t.d.fact 53 (f := .glo "_law_term_right") rfl)
  F__law_mixed := c.t.d.def_ 41 (d := d__law_mixed) rfl
  m__law_mixed := He.glo_ok X G (c.t.d.fact 41 (f := .glo "_law_mixed") rfl)
  F__law_begin := c.t.d.def_ 42 (d := d__law_begin) rfl
  m__law_begin := He.glo_ok X G (c.t.d.fact 42 (f := .glo "_law_begin") rfl)
  F__law_draw := c.t.d.def_ 43 (d := d__law_draw) rfl
  m__law_draw := He.glo_ok X G (c.t.d.fact 43 (f := .glo "_law_draw") rfl)
  F__law_of := c.t.d.def_ 44 (d := d__law_of) rfl
  m__law_of := He.glo_ok X G (c.t.d.fact 44 (f := .glo "_law_of") rfl)
  F__law_term := c.t.d.def_ 50 (d := d__law_term) rfl
  m__law_term := He.glo_ok X G (c.t.d.fact 50 (f := .glo "_law_term") rfl)
  F_law := c.t.d.def_ 54 (d := d_law) rfl
  m_law := He.glo_ok X G (c.t.d.fact 54 (f := .glo "law") rfl)
end
theorem hc_of (fd : FuncData) (F : FnP K "field_in" s_field_in (He.fAd K ("field_in", none)) fd) : FunDc K "field_in" "field_in" (defArgs s_field_in) (defBody s_field_in) (defScope s_field_in) (He.fAd K ("field_in", none)) fd (He.codeOf K ("field_in", none)) := by
  refine ⟨?_, F⟩
  obtain ⟨oc, od, dV, kV, doc, pm, an, cdv, ct, osl, rfl, lk, hcd, _, _⟩ := F.ex
  obtain ⟨c', rfl⟩ := He.codeIn_ref hcd
  rw [He.codeOf_eq (p := ("field_in", none)) lk rfl]
  exact ⟨oc, od, dV, kV, doc, pm, an, ct, osl, rfl, lk, hcd⟩
end Qp
open PySem PySem.W PySem.Calls PyProof.Rows in
theorem PySem.Challenge.cw_onerising_k25_whole_terms_holds : PySem.Challenge.rw_onerising_k25_whole_terms.Holds := by
  refine Qp.headR ?hc
  case hc =>
    refine Qd.walk_ofG (l := PySem.Challenge.rw_onerising_k25_whole_terms) (n := 63) (k := 12) (x := "_law_script") rfl (by decide) (by kernel_rfl) ⟨rfl, by decide, by decide⟩ ?F
    intro w mg fa h Y G hmg0
    obtain ⟨K, KX, c⟩ := Y
    have hmg : mg ("law" : PySem.Str) = some (.ref fa) := by
      have e : (HandSHeadRun.topDef (OpenLaw.row PySem.Challenge.rw_onerising_k25_whole_terms).prog 85).name = ("law" : PySem.Str) := by kernel_rfl
      rw [← e]
      exact hmg0
    have X := Qp.fx_of KX G c
    have e := hmg.symm.trans X.m_law
    cases e
    obtain ⟨fd, F⟩ := X.F_law
    have b := L2.FunD.bindsA (ps := ["_law_script"]) F fun _ _ _ _ _ _ us hl => match us, hl with | [_], _ => rfl
    have hp : (("field_in", none) : PySem.Str × Option PySem.Str) ∈ Qp.tf := List.mem_cons_self
    exact ⟨K, KX, fd, He.codeOf K ("field_in", none), (He.cT K ("field_in", none)).2, Qp.spLaw K (He.cT K ("field_in", none)).2, c.empty _ hp, c.out _ hp, PySem.W.codeHd_of_K KX (c.hd _ hp), fun s v => b s [v] rfl,
      fun H a ns hl _ h0 h1 h2 => ⟨a, ns, rfl, by omega, h0, h1, h2, fun _ => rfl⟩, fun base _ _ TB => Qp.law_fn (Qp.tx_of KX G c) X Qp.hc_of TB F⟩
